/- A part of a proof: walks of functions and lemmas of our own. No conditions. -/
import Derived.Test.YtopoomikfjodkaaGreatDoorQAl
import Derived.Test.YtopoomikfjodkaaGreatDoorQAt
import Derived.Test.YtopoomikfjodkaaGreatDoorQAu
import Derived.Test.YtopoomikfjodkaaGreatDoorQAw
import Derived.Test.YtopoomikfjodkaaGreatDoorQAo
import Derived.Test.YtopoomikfjodkaaGreatDoorQAq
import Derived.Test.YtopoomikfjodkaaGreatDoorQAi
import Derived.Test.YtopoomikfjodkaaGreatDoorQAn
set_option linter.unusedSectionVars false
set_option linter.unusedVariables false
set_option linter.unusedSimpArgs false
set_option maxHeartbeats 1000000
namespace Go.Ab
open Go Go.Proofs
def ytp (a0:Character) (i1:Nat) (s1:List Int):Except ((List Int)) (List Int):=
 (bif decide (0<(i1:Int))then .ok ((s1++([5]:List Int))++([((zmb ((a0.Letter.getD 0 0).toNat:Int)).getD i1 default)]:List Int))else .ok (s1++([((zmb ((a0.Letter.getD 0 0).toNat:Int)).getD i1 default)]:List Int)))
def ycq (a0:Character) (i2:Nat) (s2:List Int) (i3:Nat) (s3:List Int):Except ((List Int)) (List Int):=
 (bif decide (0<(i3:Int))then .ok ((s3++([(zyb a0.Kind)]:List Int))++([(zvd a0.Kind)]:List Int))else(bif decide (0<(i2:Int))then .ok ((s3++([IntKind.wrap .i64 ((zyb a0.Kind)+20)]:List Int))++([(zvd a0.Kind)]:List Int))else .ok (s3++([(zvd a0.Kind)]:List Int))))
def yop (a0:Character) (i2:Nat) (s2:List Int):Except ((List Int)) (List Int):=
 (match yd (ycq a0 i2 s2) (((([1]:List Int).getD i2 default)).toNat-0) 0 s2 with|.error e=>.error e|.ok s3=>.ok s3)
def yno (a0:Character) (i4:Nat) (s4:List Int) (i5:Nat) (s5:List Int):Except ((List Int)) (List Int):=
 (bif decide (0<(i5:Int))then .ok ((s5++([(zyb a0.Kind)]:List Int))++([(zvd a0.Kind)]:List Int))else(bif decide (0<(i4:Int))then .ok ((s5++([IntKind.wrap .i64 ((zyb a0.Kind)+20)]:List Int))++([(zvd a0.Kind)]:List Int))else .ok (s5++([(zvd a0.Kind)]:List Int))))
def yao (a0:Character) (i4:Nat) (s4:List Int):Except ((List Int)) (List Int):=
 (match yd (yno a0 i4 s4) (((a0.Group.getD i4 default)).toNat-0) 0 s4 with|.error e=>.error e|.ok s5=>.ok s5)
def zp (a0:Character):(List Int):=
 (bif (a0.Kind == 8)then(match yd (ytp a0) (((zmb ((a0.Letter.getD 0 0).toNat:Int)).length)-0) 0 ([]:List Int)with|.error e=>e|.ok s1=>s1)else(bif ((a0.Group.length:Int) == 0)then(match yd (yop a0) (1-0) 0 ([]:List Int)with|.error e=>e|.ok s2=>(bif (a0.Letter == [76])then s2++([(zyb a0.Kind),20]:List Int)else s2))else(match yd (yao a0) (a0.Group.length-0) 0 ([]:List Int)with|.error e=>e|.ok s4=>(bif (a0.Letter == [76])then s4++([(zyb a0.Kind),20]:List Int)else s4))))
namespace N329
theorem DD:DOk Tryz.prog (Go.Ab.DD [(367,dP D_zmb),(368,dP D_zyb),(369,dP D_zvd)]):=ya y5z.e <| ya yiu.e <| ya yvz.e <| ye _
theorem dn:type_of% (And.intro @D_zmb.eq_1 <| And.intro @D_zyb.eq_1 <| @D_zvd.eq_1):=by and_intros<;>intros<;>rfl
theorem o2 {p:Prop} (h:p:=by(first|(and_intros<;>first|decide|omega|(simp;(first|done|fail))|(rw[IntKind.wrap_i64];have:=hg9 i4;omega)|(rw[IntKind.wrap_i64];have:=hg1 i2;omega)|(rw[IntKind.wrap_i64];omega)|(intro i hi;exact yle _ _ i hi)|(intro i hi;exact yyq _ _ _ i hi)));first|done|fail):p:=h
theorem o3 {p:Prop} (h:p:=by(first|(refine⟨⟨Nat.le_refl _,fun i hi=>yoq _ _ _ i hi⟩,.inl fun i hi=>by rw[y2i _ _ _ i hi];simp[NoBorL,NoBor],by simp,fun i hi=>by rw[y2i _ _ _ i hi];exact y8 _⟩));first|done|fail):p:=h
theorem lx {p:Prop} (h:p:=by(exact lxx);first|done|fail):p:=h
set_option maxHeartbeats 1000000 in
set_option maxRecDepth 20000 in
theorem den (a0:Character) (hb0:bdCharacter a0) (hp0:a0.Group.length≤4) (hp1:∀ v∈a0.Group,v≤9) (hp2:a0.Kind=8→a0.Letter.length=1∧65≤(a0.Letter.getD 0 0).toNat∧(a0.Letter.getD 0 0).toNat≤90):Den Tryz.prog 329 [.ep (yi a0)] (ownL 2 1 yt (zp a0)):=by
 generalize hR:zp a0=r
 unfold zp at hR
 refine di Tryz.func329 Tryz.ntmps329 Tryz.results329 ?_
 intro c hL hc hk
 obtain⟨hL0,_⟩:=hL
 have hw0:bwCharacter a0:=yp a0 hL0
 clear hL0
 simp only[pars,Nat.zero_add]
 have hg9:∀ i:Nat,a0.Group.getD i default≤9:=fun i=>yzn hp1 i
 have hs9:=yho ((a0.Letter.getD 0 0).toNat:Int)
 have hg1:∀ i:Nat,([1]:List Int).getD i default≤9:=fun i=>yzn (by simp) i
 iterate 3 refine rS ?_
 refine AWP.cond rfl (fun hb => ?_) (fun hb => ?_)
 ·replace hR:=ct hR
  iterate 2 refine rS ?_
  refine AWP.block ?_
  generalize hz1:yd (ytp a0) (((zmb ((a0.Letter.getD 0 0).toNat:Int)).length)-0) 0 ([]:List Int)=z1 at hR
  refine AWP.range (ytp a0) (fun i1 s1=>⟨[(3,.ref 0 1 0 s1.length),(4,.ref 1 1 0 ((zmb ((a0.Letter.getD 0 0).toNat:Int)).length)),(5,.int .i64 (i1:Int))],[.arr 2 1 s1.length (fun j=>yt (s1.getD j default)),.arr 2 1 (zmb ((a0.Letter.getD 0 0).toNat:Int)).length (fun j=>yt ((zmb ((a0.Letter.getD 0 0).toNat:Int)).getD j default))]⟩) (fun i1 s1=>s1.length≤([]:List Int).length+2 * i1∧s1.length≤2 * i1) (((zmb ((a0.Letter.getD 0 0).toNat:Int)).length)) 0 ([]:List Int) [0,1] hz1 ot wt sm ?_
  clear hz1
  intro i1 s1 hi1 hW1 hz1
  refine rS ?_
  refine AWP.cond rfl (fun hb => ?_) (fun hb => ?_)
  ·have hlt1:i1<((zmb ((a0.Letter.getD 0 0).toNat:Int)).length):=ot
   rw[yh hlt1]at hz1;simp only[ytp]at hz1
   refine rS ?_
   refine AWP.cond rfl (fun hb => ?_) (fun hb => ?_)
   ·simp only[hb,cond_true]at hz1
    iterate 3 refine rS ?_
    exact⟨_,[5,1],hlt1,wt,hz1,sm⟩
   ·simp only[hb,cond_false]at hz1
    iterate 2 refine rS ?_
    exact⟨_,[3,1],hlt1,wt,hz1,sm⟩
  ·obtain rfl:i1=((zmb ((a0.Letter.getD 0 0).toNat:Int)).length):=ot
   rw[yg (Nat.le_refl _)]at hz1;subst hz1;dsimp only at hR
   refine AWP.exit ?_;refine yb ?_
   refine rS ?_
   refine AWP.ret ?_
   subst hR
   exact es
 ·replace hR:=cf hR
  iterate 2 refine rS ?_
  refine AWP.cond rfl (fun hb => ?_) (fun hb => ?_)
  ·replace hR:=ct hR
   iterate 2 refine rS ?_
   refine AWP.block ?_
   generalize hz2:yd (yop a0) (1-0) 0 ([]:List Int)=z2 at hR
   refine AWP.range (yop a0) (fun i2 s2=>⟨[(0,.ep (yi a0)),(3,.ref 0 1 0 s2.length),(6,.ref 1 1 0 1),(7,.int .i64 (i2:Int))],[.arr 2 1 s2.length (fun j=>yt (s2.getD j default)),.arr 2 1 ([1]:List Int).length (fun j=>yt (([1]:List Int).getD j default))]⟩) (fun i2 s2=>s2.length≤18 * i2) (1) 0 ([]:List Int) [0,1] hz2 ot wt sm ?_
   clear hz2
   intro i2 s2 hi2 hW2 hz2
   refine rS ?_
   refine AWP.cond rfl (fun hb => ?_) (fun hb => ?_)
   ·have hlt2:i2<1:=ot
    rw[yh hlt2]at hz2;simp only[yop]at hz2
    refine rS ?_
    refine AWP.block ?_
    generalize hz3:yd (ycq a0 i2 s2) (((([1]:List Int).getD i2 default)).toNat-0) 0 s2=z3 at hz2
    refine AWP.range (ycq a0 i2 s2) (fun i3 s3=>⟨[(0,.ep (yi a0)),(3,.ref 0 1 0 s3.length),(6,.ref 1 1 0 1),(7,.int .i64 (i2:Int)),(8,.int .i64 (i3:Int))],[.arr 2 1 s3.length (fun j=>yt (s3.getD j default)),.arr 2 1 ([1]:List Int).length (fun j=>yt (([1]:List Int).getD j default))]⟩) (fun i3 s3=>s3.length≤s2.length+2 * i3∧s3.length≤18 * i2+2 * i3) (((([1]:List Int).getD i2 default)).toNat) 0 s2 [0,1] hz3 ot wt sm ?_
    clear hz3
    intro i3 s3 hi3 hW3 hz3
    refine rS ?_
    refine AWP.cond rfl (fun hb => ?_) (fun hb => ?_)
    ·have hlt3:i3<((([1]:List Int).getD i2 default)).toNat:=ot
     rw[yh hlt3]at hz3;simp only[ycq]at hz3
     refine rS ?_
     refine AWP.cond rfl (fun hb => ?_) (fun hb => ?_)
     ·simp only[hb,cond_true]at hz3
      iterate 3 refine rS ?_
      exact⟨_,[5,1],hlt3,wt,hz3,sm⟩
     ·simp only[hb,cond_false]at hz3
      refine rS ?_
      refine AWP.cond rfl (fun hb => ?_) (fun hb => ?_)
      ·simp only[hb,cond_true]at hz3
       iterate 3 refine rS ?_
       exact⟨_,[5,1],hlt3,wt,hz3,sm⟩
      ·simp only[hb,cond_false]at hz3
       iterate 2 refine rS ?_
       exact⟨_,[3,1],hlt3,wt,hz3,sm⟩
    ·obtain rfl:i3=((([1]:List Int).getD i2 default)).toNat:=ot
     rw[yg (Nat.le_refl _)]at hz3;subst hz3;dsimp only at hz2
     refine AWP.exit ?_;refine yb ?_
     refine rS ?_
     exact⟨_,[0,1],hlt2,by(have h9:=hg1 i2;omega),hz2,sm⟩
   ·obtain rfl:i2=1:=ot
    rw[yg (Nat.le_refl _)]at hz2;subst hz2;dsimp only at hR
    refine AWP.exit ?_;refine yb ?_
    refine rS ?_
    refine AWP.cond rfl (fun hb => ?_) (fun hb => ?_)
    ·replace hR:=ct hR
     iterate 2 refine rS ?_
     refine AWP.ret ?_
     subst hR
     exact es
    ·replace hR:=cf hR
     refine rS ?_
     refine AWP.ret ?_
     subst hR
     exact es
  ·replace hR:=cf hR
   refine rS ?_
   refine AWP.block ?_
   refine AWP.lensS 6 rfl (fun hLn4 => ?_)
   generalize hz4:yd (yao a0) (a0.Group.length-0) 0 ([]:List Int)=z4 at hR
   refine AWP.range (yao a0) (fun i4 s4=>⟨[(0,.ep (yi a0)),(3,.ref 0 1 0 s4.length),(6,encL 1 yt a0.Group),(7,.int .i64 (i4:Int))],[.arr 2 1 s4.length (fun j=>yt (s4.getD j default))]⟩) (fun i4 s4=>s4.length≤18 * i4) (a0.Group.length) 0 ([]:List Int) [0] hz4 ot wt sm ?_
   clear hz4
   intro i4 s4 hi4 hW4 hz4
   refine rS ?_
   refine AWP.cond rfl (fun hb => ?_) (fun hb => ?_)
   ·have hlt4:i4<a0.Group.length:=ot
    rw[yh hlt4]at hz4;simp only[yao]at hz4
    refine rS ?_
    refine AWP.block ?_
    generalize hz5:yd (yno a0 i4 s4) (((a0.Group.getD i4 default)).toNat-0) 0 s4=z5 at hz4
    refine AWP.range (yno a0 i4 s4) (fun i5 s5=>⟨[(0,.ep (yi a0)),(3,.ref 0 1 0 s5.length),(6,encL 1 yt a0.Group),(7,.int .i64 (i4:Int)),(8,.int .i64 (i5:Int))],[.arr 2 1 s5.length (fun j=>yt (s5.getD j default))]⟩) (fun i5 s5=>s5.length≤s4.length+2 * i5∧s5.length≤18 * i4+2 * i5) (((a0.Group.getD i4 default)).toNat) 0 s4 [0] hz5 ot wt sm ?_
    clear hz5
    intro i5 s5 hi5 hW5 hz5
    refine rS ?_
    refine AWP.cond rfl (fun hb => ?_) (fun hb => ?_)
    ·have hlt5:i5<((a0.Group.getD i4 default)).toNat:=ot
     rw[yh hlt5]at hz5;simp only[yno]at hz5
     refine rS ?_
     refine AWP.cond rfl (fun hb => ?_) (fun hb => ?_)
     ·simp only[hb,cond_true]at hz5
      iterate 3 refine rS ?_
      exact⟨_,[4],hlt5,wt,hz5,sm⟩
     ·simp only[hb,cond_false]at hz5
      refine rS ?_
      refine AWP.cond rfl (fun hb => ?_) (fun hb => ?_)
      ·simp only[hb,cond_true]at hz5
       iterate 3 refine rS ?_
       exact⟨_,[4],hlt5,wt,hz5,sm⟩
      ·simp only[hb,cond_false]at hz5
       iterate 2 refine rS ?_
       exact⟨_,[2],hlt5,wt,hz5,sm⟩
    ·obtain rfl:i5=((a0.Group.getD i4 default)).toNat:=ot
     rw[yg (Nat.le_refl _)]at hz5;subst hz5;dsimp only at hz4
     refine AWP.exit ?_;refine yb ?_
     refine rS ?_
     exact⟨_,[0],hlt4,by(have h9:=hg9 i4;omega),hz4,sm⟩
   ·obtain rfl:i4=a0.Group.length:=ot
    rw[yg (Nat.le_refl _)]at hz4;subst hz4;dsimp only at hR
    refine AWP.exit ?_;refine yb ?_
    refine rS ?_
    refine AWP.cond rfl (fun hb => ?_) (fun hb => ?_)
    ·replace hR:=ct hR
     iterate 2 refine rS ?_
     refine AWP.ret ?_
     subst hR
     exact es
    ·replace hR:=cf hR
     refine rS ?_
     refine AWP.ret ?_
     subst hR
     exact es
end N329
def D_zp : DF
 | [x0]=>some (ownL 2 1 yt (zp (rdP yc x0)),false,[wP yi yc x0,bdCharacter (rdP yc x0),(rdP yc x0).Group.length≤4,∀ v∈(rdP yc x0).Group,v≤9,(rdP yc x0).Kind=8→(rdP yc x0).Letter.length=1∧65≤((rdP yc x0).Letter.getD 0 0).toNat∧((rdP yc x0).Letter.getD 0 0).toNat≤90])
 | _=>none
theorem y25:OkD Tryz.prog 329 D_zp:=by unfold D_zp;exact dk N329.den
end Go.Ab

namespace Go.Ab
open Go Go.Proofs
def zaf (a0:Character):Int:=
 (bif (zse a0)then 0 else(bif (a0.Kind == 3)then 20 else IntKind.wrap .i64 ((zqd (zp a0))+(zze a0))))
namespace N276
theorem DD:DOk Tryz.prog (Go.Ab.DD [(275,dP D_zse),(328,dP D_zqd),(329,dP D_zp),(330,dP D_zze)]):=ya yzs.e <| ya yp3.e <| ya y25.e <| ya yr3.e <| ye _
theorem dn:type_of% (And.intro @D_zse.eq_1 <| And.intro @D_zqd.eq_1 <| And.intro @D_zp.eq_1 <| @D_zze.eq_1):=by and_intros<;>intros<;>rfl
theorem den (a0:Character) (hb0:bdCharacter a0) (hp0:a0.Group.length≤4) (hp1:∀ v∈a0.Group,v≤9) (hp2:a0.Kind=8→a0.Letter.length=1∧65≤(a0.Letter.getD 0 0).toNat∧(a0.Letter.getD 0 0).toNat≤90):Den Tryz.prog 276 [.ep (yi a0)] (.int .i64 (zaf a0)):=by
 generalize hR:zaf a0=r
 unfold zaf at hR
 refine di Tryz.func276 Tryz.ntmps276 Tryz.results276 ?_
 intro c hL hc hk
 obtain⟨hL0,_⟩:=hL
 have hw0:bwCharacter a0:=yp a0 hL0
 clear hL0
 simp only[pars,Nat.zero_add]
 iterate 2 refine rS ?_
 refine AWP.cond rfl (fun hb => ?_) (fun hb => ?_)
 ·replace hR:=ct hR
  refine rS ?_
  refine AWP.ret ?_
  subst hR
  exact es
 ·replace hR:=cf hR
  refine rS ?_
  refine AWP.cond rfl (fun hb => ?_) (fun hb => ?_)
  ·replace hR:=ct hR
   refine rS ?_
   refine AWP.ret ?_
   subst hR
   exact es
  ·replace hR:=cf hR
   refine rS ?_
   refine AWP.ret ?_
   subst hR
   exact es
end N276
def D_zaf : DF
 | [x0]=>some (.int .i64 (zaf (rdP yc x0)),false,[wP yi yc x0,bdCharacter (rdP yc x0),(rdP yc x0).Group.length≤4,∀ v∈(rdP yc x0).Group,v≤9,(rdP yc x0).Kind=8→(rdP yc x0).Letter.length=1∧65≤((rdP yc x0).Letter.getD 0 0).toNat∧((rdP yc x0).Letter.getD 0 0).toNat≤90])
 | _=>none
theorem yb3:OkD Tryz.prog 276 D_zaf:=by unfold D_zaf;exact dk N276.den
end Go.Ab

namespace Go.Ab
open Go Go.Proofs
def zob (a0:Character):Bool:=
 (bif (!(zie a0))then false else(bif (zse a0)then(a0.Period == 0)else(bif ((a0.Kind == 3) && ((a0.Period.tmod 2) != 0))then false else(zl a0.Period (zaf a0) 600))))
namespace N199
theorem DD:DOk Tryz.prog (Go.Ab.DD [(170,dP D_zl),(274,dP D_zie),(275,dP D_zse),(276,dP D_zaf)]):=ya ylg.e <| ya yx0.e <| ya yzs.e <| ya yb3.e <| ye _
theorem dn:type_of% (And.intro @D_zl.eq_1 <| And.intro @D_zie.eq_1 <| And.intro @D_zse.eq_1 <| @D_zaf.eq_1):=by and_intros<;>intros<;>rfl
theorem ol:type_of% (@zl.eq_1):=@zl.eq_1
theorem o0 {p:Prop} (h:p:=by(first|(have q9 := ‹(!zie a0)=false›;have h9:=yyk a0 (by simpa using q9);first|exact⟨hb0,h9.1,fun v hv=>(h9.2.1 v hv).2,h9.2.2⟩|exact⟨h9.1,fun v hv=>(h9.2.1 v hv).2,h9.2.2⟩|(and_intros<;>first|exact hb0|exact h9.1|exact fun v hv=>(h9.2.1 v hv).2|exact h9.2.2|decide|(intros;decide))));first|done|fail):p:=h
theorem den (a0:Character) (hb0:bdCharacter a0):Den Tryz.prog 199 [.ep (yi a0)] (.bool (zob a0)):=by
 generalize hR:zob a0=r
 unfold zob at hR
 refine di Tryz.func199 Tryz.ntmps199 Tryz.results199 ?_
 intro c hL hc hk
 obtain⟨hL0,_⟩:=hL
 have hw0:bwCharacter a0:=yp a0 hL0
 clear hL0
 simp only[pars,Nat.zero_add]
 iterate 2 refine rS ?_
 refine AWP.cond rfl (fun hb => ?_) (fun hb => ?_)
 ·replace hR:=ct hR
  refine rS ?_
  refine AWP.ret ?_
  subst hR
  exact es
 ·replace hR:=cf hR
  refine rS ?_
  refine AWP.cond rfl (fun hb => ?_) (fun hb => ?_)
  ·replace hR:=ct hR
   refine rS ?_
   refine AWP.ret ?_
   subst hR
   exact es
  ·replace hR:=cf hR
   refine rS ?_
   refine AWP.cond rfl (fun hb => ?_) (fun hb => ?_)
   ·replace hR:=ct hR
    refine rS ?_
    refine AWP.ret ?_
    subst hR
    exact es
   ·replace hR:=cf hR
    refine rD 6 ?_
    refine AWP.ret ?_
    subst hR
    exact es
end N199
def D_zob : DF
 | [x0]=>some (.bool (zob (rdP yc x0)),false,[wP yi yc x0,bdCharacter (rdP yc x0)])
 | _=>none
theorem ybt:OkD Tryz.prog 199 D_zob:=by unfold D_zob;exact dk N199.den
end Go.Ab

namespace Go.Ab
open Go Go.Proofs
theorem yu2 (g:List Int):zkd g=zed g:=Bool.eq_iff_iff.2 ((yuj g).trans (y1e g).symm)
theorem ykn (a:List UInt8):(znb a != [])=decide (a.length=1∧65≤(a.getD 0 0).toNat∧(a.getD 0 0).toNat≤90):=by
 rw[y4i]
 by_cases h:a.length=1∧65≤(a.getD 0 0).toNat∧(a.getD 0 0).toNat≤90
 ·rw[if_pos h,decide_eq_true h]
  have hlt:(a.getD 0 0).toNat-65<y4c.length:=by show _<26;omega
  rw[List.getD_eq_getElem?_getD,List.getElem?_eq_getElem hlt,Option.getD_some]
  have:=(yah _ (List.getElem_mem hlt)).1
  rw[bne_iff_ne]
  intro h2;rw[h2]at this;simp at this
 ·rw[if_neg h,decide_eq_false h];rfl
theorem ya2 (L:List UInt8) (g:List Int) :
  (bif (L == [])then(((g.length:Int) == 0) || (((g.length:Int) == 1) && (zf (g.getD 0 default) 2 9)))else((L == [76]) && (zic g [6]))) =
  (bif (L == [76])then(((g.length:Int) == 1) && ((g.getD 0 default) == 6))else(((L == []) && decide ((g.length:Int)≤1)) && (zed g))):=by
 by_cases h1:L=[]
 ·subst h1
  simp only[show(([]:List UInt8) == [])=true from rfl,show(([]:List UInt8) == [76])=false from rfl,cond_true,cond_false,Bool.true_and]
  apply Bool.eq_iff_iff.2
  rw[Bool.and_eq_true,y1e,decide_eq_true_eq]
  match g with
  | []=>simp[yav]
  | [x]=>
   have e:((([x]:List Int).length:Int) == 0)=false:=rfl
   have e2:((([x]:List Int).length:Int) == 1)=true:=rfl
   rw[e,e2]
   simp only[Bool.false_or,Bool.true_and,zf,Bool.and_eq_true,decide_eq_true_eq,List.getD_cons_zero,yav,List.length_singleton,List.mem_singleton,forall_eq,List.sum_cons,List.sum_nil,ne_eq,List.cons.injEq,and_true]
   omega
  | x::y::t=>
   have e:(((x::y::t).length:Int) == 0)=false:=by rw[beq_eq_false_iff_ne];simp only[List.length_cons];omega
   have e2:(((x::y::t).length:Int) == 1)=false:=by rw[beq_eq_false_iff_ne];simp only[List.length_cons];omega
   rw[e,e2]
   simp only[Bool.false_and,Bool.or_self,Bool.false_eq_true,false_iff,List.length_cons]
   omega
 ·have e1:(L == [])=false:=by simpa using h1
  rw[e1]
  by_cases h2:L=[76]
  ·subst h2
   simp only[BEq.rfl,cond_true,cond_false,Bool.true_and,ydf]
   apply Bool.eq_iff_iff.2
   rw[Bool.and_eq_true,decide_eq_true_eq,beq_iff_eq,beq_iff_eq]
   constructor
   ·intro h;subst h;simp
   ·rintro⟨h3,h4⟩
    obtain⟨x,rfl⟩:=List.length_eq_one_iff.1 (show g.length=1 by omega)
    simp only[List.getD_cons_zero]at h4
    rw[h4]
  ·have e2:(L == [76])=false:=by simpa using h2
   rw[e2];simp
theorem ym0 (c:Character) (hl:c.Colors.length<9223372036854775808):zie c=(zrb c.Colors && zbb c):=by
 unfold zie zbb zcg zl
 rw[y2o _ hl, ← ya2,yu2,ykn]
 cases zbc c.Colors with
 | false=>simp
 | true=>
  simp only[Bool.not_true,Bool.or_false,Bool.true_and]
  rcases(show c.Kind=1∨c.Kind=2∨c.Kind=3∨c.Kind=4∨c.Kind=5∨c.Kind=6∨c.Kind=7∨c.Kind=8∨(c.Kind<1∨8<c.Kind)by omega)with h|h|h|h|h|h|h|h|h
  ·rw[h];rfl
  ·rw[h];rfl
  ·rw[h];rfl
  ·rw[h];rfl
  ·rw[h];rfl
  ·rw[h];rfl
  ·rw[h];rfl
  ·rw[h]
   show((((((c.Group.length:Int) == 0) && ((c.Letter.length:Int) == 1)) && decide (65≤((c.Letter.getD 0 0).toNat:Int))) && decide (((c.Letter.getD 0 0).toNat:Int)≤90)))=(decide (c.Letter.length=1∧65≤(c.Letter.getD 0 0).toNat∧(c.Letter.getD 0 0).toNat≤90) && ((c.Group.length:Int) == 0))
   apply Bool.eq_iff_iff.2
   simp only[Bool.and_eq_true,beq_iff_eq,decide_eq_true_eq]
   omega
  ·have e0:(decide (1≤c.Kind) && decide (c.Kind≤8))=false:=by
    rw[Bool.and_eq_false_iff,decide_eq_false_iff_not,decide_eq_false_iff_not];omega
   have e:∀ n:Int,1≤n→n≤8→(c.Kind == n)=false:=fun n h1 h2=>by rw[beq_eq_false_iff_ne];omega
   rw[e0,e 1 (by omega) (by omega),e 2 (by omega) (by omega),e 3 (by omega) (by omega),e 4 (by omega) (by omega),e 5 (by omega) (by omega),e 6 (by omega) (by omega),e 7 (by omega) (by omega),e 8 (by omega) (by omega)]
   rfl
theorem yd7 (l:List Int):zde l=zqd l:=rfl
theorem ynj (c:Character):ztc c=zse c:=rfl
theorem yhp (c:Character) (h:zbb c=true) (h8:c.Kind≠8):(c.Letter != [])=(c.Letter == [76]):=by
 unfold zbb at h
 simp only[Bool.cond_eq_ite]at h
 have e8:(c.Kind == 8)=false:=by rw[beq_eq_false_iff_ne];exact h8
 repeat' split at h
 all_goals first
  | (rename_i q;rw[e8]at q;cases q;done)
  | (cases h;done)
  | (simp only[Bool.and_eq_true,beq_iff_eq]at h;rw[h.2];rfl)
  | (simp only[Bool.and_eq_true,beq_iff_eq]at h;rw[h.1];rfl)
  | (rename_i q;simp only[beq_iff_eq]at q;rw[q];rfl)
theorem yhx (k:Int) (h:k=2∨k=4∨k=5∨k=6∨k=7∨k=8):(zv k).1=zvd k∧(zv k).2.1=zyb k:=by
 rcases h with h|h|h|h|h|h<;>subst h<;>exact⟨rfl,rfl⟩
theorem yb0 (c:Character) (h:zbb c=true) (hk:c.Kind=2∨c.Kind=4∨c.Kind=5∨c.Kind=6∨c.Kind=7∨c.Kind=8):zu c=zp c:=by
 obtain⟨r1,r2⟩:=yhx c.Kind hk
 by_cases h8:c.Kind=8
 ·have hs:(znb c.Letter != [])=true:=by
   unfold zbb at h
   rw[h8]at h
   have h:(((znb c.Letter) != []) && ((c.Group.length:Int) == 0))=true:=h
   rw[Bool.and_eq_true]at h
   exact h.1
  rw[ykn,decide_eq_true_eq]at hs
  have e1:=y4i c.Letter
  rw[if_pos hs]at e1
  have e2:=ycg ((c.Letter.getD 0 0).toNat:Int)
  rw[y9j _ (by omega) (by omega),show((((c.Letter.getD 0 0).toNat:Int)-65).toNat)=(c.Letter.getD 0 0).toNat-65 by omega]at e2
  have hd:(default:List UInt8)=[]:=rfl
  rw[hd]at e2
  have hall:∀ x∈y4c.getD ((c.Letter.getD 0 0).toNat-65) [],x=45∨x=46:=by
   have hlt:(c.Letter.getD 0 0).toNat-65<y4c.length:=by show _<26;omega
   rw[List.getD_eq_getElem?_getD,List.getElem?_eq_getElem hlt,Option.getD_some]
   exact(yah _ (List.getElem_mem hlt)).2.2
  generalize y4c.getD ((c.Letter.getD 0 0).toNat-65) []=code at *
  have hb:yd (ytv c) code.length 0 []=yd (ytp c) code.length 0 []:=yol _ _ _ (fun j u _ hj=>by
   unfold ytv ytp
   rw[e1,e2,r1,r2,h8]
   have hg:(code.map (fun c=>if c=46 then(5:Int)else 15)).getD j default=if code.getD j 0=46 then 5 else 15:=by
    rw[List.getD_eq_getElem?_getD,List.getD_eq_getElem?_getD,List.getElem?_map,List.getElem?_eq_getElem (by omega)]
    rfl
   rw[hg]
   have hm:=hall (code.getD j 0) (by rw[List.getD_eq_getElem?_getD,List.getElem?_eq_getElem (by omega),Option.getD_some];exact List.getElem_mem _)
   generalize code.getD j 0=x at hm
   rcases hm with hm|hm<;>subst hm<;>rfl)
  unfold zu zp
  rw[h8,e1,e2]
  simp only[List.length_map,Nat.sub_zero]
  rw[hb]
  rfl
 ·have e8:(c.Kind == 8)=false:=by rw[beq_eq_false_iff_ne];exact h8
  unfold zu zp
  rw[e8,yhp c h h8,r2]
  have b3:ymv c=ycq c:=by
   funext i s j t
   unfold ymv ycq
   rw[r1,r2]
  have b5:yuv c=yno c:=by
   funext i s j t
   unfold yuv yno
   rw[r1,r2]
  have b2:yzv c=yop c:=by
   funext i s
   unfold yzv yop
   rw[b3]
   all_goals rfl
  have b4:yiv c=yao c:=by
   funext i s
   unfold yiv yao
   rw[b5]
   all_goals rfl
  rw[b2,b4]
  rfl
theorem ynt (c:Character) (h:zbb c=true) (hs:ztc c=false):zwf c=zaf c:=by
 unfold zwf zaf
 rw[hs, ← ynj,hs]
 simp only[cond_false]
 by_cases h3:c.Kind=3
 ·rw[h3];rfl
 ·have e3:(c.Kind == 3)=false:=by rw[beq_eq_false_iff_ne];exact h3
  rw[e3]
  simp only[cond_false]
  have hk:c.Kind=2∨c.Kind=4∨c.Kind=5∨c.Kind=6∨c.Kind=7∨c.Kind=8:=by
   unfold zbb at h
   unfold ztc at hs
   simp only[Bool.cond_eq_ite]at h
   simp only[Bool.or_eq_false_iff,beq_eq_false_iff_ne]at hs
   repeat' split at h
   all_goals (try simp only[beq_iff_eq]at *)
   all_goals first|omega|(cases h;done)
  rw[yb0 c h hk,yd7]
  have hg:=(ytd c h).1
  have hone:c.Kind=6∨c.Kind=7∨c.Kind=8→c.Group.length≤1:=by
   intro hq
   unfold zbb at h
   simp only[Bool.cond_eq_ite]at h
   repeat' split at h
   all_goals (try simp only[Bool.and_eq_true,Bool.or_eq_true,beq_iff_eq,ydf,decide_eq_true_eq]at *)
   all_goals first|omega|(rcases h with h|h<;>omega)|(rw[h.2];simp)
  have e1:∀ n:Int,IntKind.wrap .i64 n=n∨True:=fun _=>.inr trivial
  unfold zze
  rcases hk with hk|hk|hk|hk|hk|hk
  ·rw[hk]
   cases decide (1<(c.Group.length:Int))<;>rfl
  ·rw[hk]
   cases decide (1<(c.Group.length:Int))<;>rfl
  ·rw[hk]
   cases decide (1<(c.Group.length:Int))<;>rfl
  ·have:=hone (by omega)
   rw[hk,decide_eq_false (show ¬ 1<(c.Group.length:Int)by omega)];rfl
  ·have:=hone (by omega)
   rw[hk,decide_eq_false (show ¬ 1<(c.Group.length:Int)by omega)];rfl
  ·have:=hone (by omega)
   rw[hk,decide_eq_false (show ¬ 1<(c.Group.length:Int)by omega)];rfl
theorem ypf (c:Character) (hl:c.Colors.length<9223372036854775808):zw c=zob c:=by
 unfold zw zob
 rw[ym0 c hl, ← ynj]
 cases h1:zrb c.Colors with
 | false=>rfl
 | true=>
  cases h2:zbb c with
  | false=>rfl
  | true=>
   cases h3:ztc c with
   | true=>rfl
   | false=>
    rw[ynt c h2 h3]
    simp only[Bool.not_true,Bool.or_self,Bool.and_self,cond_false,zf,zl]
    cases h4:(c.Kind == 3)with
    | false=>
     have:(c.Kind != 3)=true:=by rw[bne,h4];rfl
     rw[this];simp
    | true=>
     have:(c.Kind != 3)=false:=by rw[bne,h4];rfl
     rw[this]
     simp only[Bool.false_or,Bool.true_and]
     cases h5:(c.Period.tmod 2 == 0)with
     | true=>
      have:(c.Period.tmod 2 != 0)=false:=by rw[bne,h5];rfl
      rw[this];simp
     | false=>
      have:(c.Period.tmod 2 != 0)=true:=by rw[bne,h5];rfl
      rw[this];simp
end Go.Ab

namespace Go.Ab
open Go Go.Proofs
theorem yu7 (s:List UInt8) (c:UInt8) : -1≤Go.Lib.indexByte s c∧(0≤Go.Lib.indexByte s c↔c∈s):=by
 induction s with
 | nil=>simp[Go.Lib.indexByte]
 | cons b l ih=>
  obtain⟨i1,i2⟩:=ih
  by_cases hb:b=c
  ·subst hb;simp[Go.Lib.indexByte]
  ·have hb2:¬ c=b:=fun h=>hb h.symm
   have e1:(b == c)=false:=by simpa using hb
   by_cases hm:c∈l
   ·have h0:=i2.2 hm
    have e2:(Go.Lib.indexByte l c == -1)=false:=by rw[beq_eq_false_iff_ne];omega
    have e3:Go.Lib.indexByte (b::l) c=Go.Lib.indexByte l c+1:=by simp only[Go.Lib.indexByte,e1,e2,Bool.false_eq_true,if_false]
    rw[e3]
    exact⟨by omega,fun _=>List.mem_cons_of_mem _ hm,fun _=>by omega⟩
   ·have h0:¬ 0≤Go.Lib.indexByte l c:=fun h=>hm (i2.1 h)
    have e0:Go.Lib.indexByte l c = -1:=by omega
    have e3:Go.Lib.indexByte (b::l) c = -1:=by simp only[Go.Lib.indexByte,e1,e0,Bool.false_eq_true,if_false];rfl
    rw[e3]
    refine⟨by omega,fun h=>by omega,fun h => ?_⟩
    rcases List.mem_cons.1 h with h|h
    ·exact absurd h hb2
    ·exact absurd h hm
theorem y9r (s:List UInt8) (c:UInt8):zqb s [c]=decide (c∈s):=by
 unfold zqb
 rw[List.getD_cons_zero]
 exact decide_eq_decide.2 (yu7 s c).2
theorem y2z (s:List UInt8) (c:UInt8):zqb (s++[c]) [c]=true:=by
 rw[y9r];simp
theorem ya7 (s:List UInt8) (b c:UInt8) (h:b≠c):zqb (s++[b]) [c]=zqb s [c]:=by
 rw[y9r,y9r]
 have:¬ c=b:=fun e=>h e.symm
 simp[this]
theorem yct (c:UInt8) (g:Sector→List UInt8→Except (List UInt8) (List UInt8)) (hg:∀ x u,g x u=bif ((x.Color == [c]) && (!(zqb u [c])))then .ok (u++[c])else .ok u) :
  ∀ (l:List Sector) (u:List UInt8),zqb u [c]=true→y3j g l u=.ok u
 | [],u,_=>rfl
 | x::l,u,h=>by
  rw[yof,hg,h,Bool.not_true,Bool.and_false]
  exact yct c g hg l u h
theorem ybx (c:UInt8) (g:Sector→List UInt8→Except (List UInt8) (List UInt8)) (hg:∀ x u,g x u=bif ((x.Color == [c]) && (!(zqb u [c])))then .ok (u++[c])else .ok u) :
  ∀ (l:List Sector) (u:List UInt8),zqb u [c]=false→y3j g l u=.ok (bif l.any (fun x=>x.Color == [c])then u++[c]else u)
 | [],u,_=>rfl
 | x::l,u,h=>by
  rw[yof,hg,h,Bool.not_false,Bool.and_true,List.any_cons]
  cases hx:(x.Color == [c])with
  | true=>
   simp only[cond_true,Bool.true_or]
   exact yct c g hg l _ (y2z u c)
  | false=>
   simp only[cond_false,Bool.false_or]
   exact ybx c g hg l u h
theorem yvw (c:List UInt8) (g:Sector→List UInt8→Except (Sum (List UInt8) (List UInt8)) (List UInt8)) (hg:∀ x u,g x u=bif (x.Color == c)then .error (.inr (u++c))else .ok u) :
  ∀ (l:List Sector) (u:List UInt8),y3j g l u=bif l.any (fun x=>x.Color == c)then .error (.inr (u++c))else .ok u
 | [],u=>rfl
 | x::l,u=>by
  rw[yof,hg,List.any_cons]
  cases hx:(x.Color == c)with
  | true=>rfl
  | false=>
   simp only[cond_false,Bool.false_or]
   exact yvw c g hg l u
def yvj (a:List Sector) (s:List UInt8) (c:UInt8):List UInt8:=bif a.any (fun x=>x.Color == [c])then s++[c]else s
theorem ytf (a:List Sector) (i:Nat) (s:List UInt8) (c:UInt8) (h4:i<4) (hc:(([87,82,71,89].take ((IntKind.wrap .i64 ((i:Int)+1)).toNat)).drop i)=[c]) (h:zqb s [c]=false) :
  y0l a i s=.ok (yvj a s c):=by
 unfold y0l
 rw[yhd (fun x u=>bif ((x.Color == [c]) && (!(zqb u [c])))then .ok (u++[c])else .ok u) a s (fun j u _=>by simp only[yjp,hc])]
 rw[ybx c _ (fun _ _=>rfl) a s h]
 rfl
theorem yzf (a:List Sector) (i:Nat) (s:List UInt8) (c:UInt8) (hc:([[87],[82],[71],[89]]:List (List UInt8)).getD i default=[c]):ysl a i s=.ok (yvj a s c):=by
 unfold ysl
 rw[yhd (fun x u=>bif (x.Color == [c])then .error (.inr (u++[c]))else .ok u) a s (fun j u _=>by simp only[y3o,hc])]
 rw[yvw [c] _ (fun _ _=>rfl) a s]
 unfold yvj
 cases a.any (fun x=>x.Color == [c])<;>rfl
theorem yqc (a:List Sector) (s:List UInt8) (b c:UInt8) (h:b≠c):zqb (yvj a s b) [c]=zqb s [c]:=by
 unfold yvj
 cases a.any (fun x=>x.Color == [b])with
 | true=>exact ya7 s b c h
 | false=>rfl
theorem yri (a:List Sector):zjc a=zkc a:=by
 unfold zjc zkc
 have n0:∀ c:UInt8,zqb [] [c]=false:=by intro c;simp[zqb,Go.Lib.indexByte]
 have l4:([87,82,71,89]:List Nat).length-0=4:=rfl
 rw[l4]
 simp only[yd,Nat.sub_zero]
 rw[ytf a 0 [] 87 (by omega) rfl (n0 _),yzf a 0 [] 87 rfl]
 simp only
 rw[ytf a (0+1) _ 82 (by omega) rfl (by rw[yqc _ _ _ _ (by decide)];exact n0 _),yzf a (0+1) _ 82 rfl]
 simp only
 rw[ytf a (0+1+1) _ 71 (by omega) rfl (by rw[yqc _ _ _ _ (by decide),yqc _ _ _ _ (by decide)];exact n0 _),yzf a (0+1+1) _ 71 rfl]
 simp only
 rw[ytf a (0+1+1+1) _ 89 (by omega) rfl (by rw[yqc _ _ _ _ (by decide),yqc _ _ _ _ (by decide),yqc _ _ _ _ (by decide)];exact n0 _),yzf a (0+1+1+1) _ 89 rfl]
end Go.Ab

namespace Go.Ab
open Go Go.Proofs
def zbe (a0:Aid):Bool:=
 (bif (((!(zw a0.Light)) || (!(zrf a0.Intensity))) || (!(zy a0.Sectors)))then false else(bif ((a0.Sectors.length:Int) == 0)then((a0.Light.Colors.length:Int) == 1)else((zjc a0.Sectors) == a0.Light.Colors)))
namespace N105
theorem DD:DOk Tryz.prog (Go.Ab.DD [(214,dP D_zrf),(215,dP D_zy),(216,dP D_zjc),(91,dP D_zw)]):=ya y81.e <| ya yms.e <| ya yi3.e <| ya yls.e <| ye _
theorem dn:type_of% (And.intro @D_zrf.eq_1 <| And.intro @D_zy.eq_1 <| And.intro @D_zjc.eq_1 <| @D_zw.eq_1):=by and_intros<;>intros<;>rfl
theorem den (a0:Aid) (hb0:bdAid a0):Den Tryz.prog 105 [.agg (eAid a0)] (.bool (zbe a0)):=by
 generalize hR:zbe a0=r
 unfold zbe at hR
 refine di Tryz.func105 Tryz.ntmps105 Tryz.results105 ?_
 intro c hL hc hk
 obtain⟨hL0,_⟩:=hL
 have hw0:bwAid a0:=yuc a0 hL0
 clear hL0
 simp only[pars,Nat.zero_add]
 iterate 2 refine rS ?_
 refine AWP.cond rfl (fun hb => ?_) (fun hb => ?_)
 ·replace hR:=ct hR
  refine rS ?_
  refine AWP.ret ?_
  subst hR
  exact es
 ·replace hR:=cf hR
  refine rS ?_
  refine AWP.cond rfl (fun hb => ?_) (fun hb => ?_)
  ·replace hR:=ct hR
   refine rS ?_
   refine AWP.ret ?_
   subst hR
   exact es
  ·replace hR:=cf hR
   refine rD 6 ?_
   refine AWP.ret ?_
   subst hR
   exact es
end N105
def D_zbe : DF
 | [x0]=>some (.bool (zbe (rdG dAid x0)),false,[wG eAid dAid x0,bdAid (rdG dAid x0)])
 | _=>none
theorem y4t:OkD Tryz.prog 105 D_zbe:=by unfold D_zbe;exact dk N105.den
end Go.Ab

namespace Go.Ab
open Go Go.Proofs
def znf (a0:Aid):Bool:=
 ((((((zag a0.Number) && (zbd a0.Name)) && (zcd a0.At)) && (zbg a0.Height)) && (zoc a0.Mark)) && ((zbe a0) || (zsf a0)))
namespace N104
theorem DD:DOk Tryz.prog (Go.Ab.DD [(105,dP D_zbe),(17,dP D_zoc),(209,dP D_zag),(210,dP D_zbd),(211,dP D_zcd),(212,dP D_zbg),(213,dP D_zsf)]):=ya y4t.e <| ya y2m.e <| ya y52.e <| ya yxu.e <| ya ynn.e <| ya yh0.e <| ya yw2.e <| ye _
theorem dn:type_of% (And.intro @D_zbe.eq_1 <| And.intro @D_zoc.eq_1 <| And.intro @D_zag.eq_1 <| And.intro @D_zbd.eq_1 <| And.intro @D_zcd.eq_1 <| And.intro @D_zbg.eq_1 <| @D_zsf.eq_1):=by and_intros<;>intros<;>rfl
theorem den (a0:Aid) (hb0:bdAid a0):Den Tryz.prog 104 [.agg (eAid a0)] (.bool (znf a0)):=by
 generalize hR:znf a0=r
 unfold znf at hR
 refine di Tryz.func104 Tryz.ntmps104 Tryz.results104 ?_
 intro c hL hc hk
 obtain⟨hL0,_⟩:=hL
 have hw0:bwAid a0:=yuc a0 hL0
 clear hL0
 simp only[pars,Nat.zero_add]
 iterate 2 refine rS ?_
 refine AWP.ret ?_
 subst hR
 exact es
end N104
def D_znf : DF
 | [x0]=>some (.bool (znf (rdG dAid x0)),false,[wG eAid dAid x0,bdAid (rdG dAid x0)])
 | _=>none
theorem y11:OkD Tryz.prog 104 D_znf:=by unfold D_znf;exact dk N104.den
end Go.Ab

namespace Go.Ab
open Go Go.Proofs
def zdc (a0:Aid):Bool:=
 (bif (((((!(zl a0.Number 1 9999)) || (!(zvb a0.Name))) || (!(zcc a0.At))) || (!(zl a0.Height 0 3000))) || (!(zvc a0.Mark)))then false else(bif (zmd a0.Light)then(((a0.Sectors.length:Int) == 0) && (a0.Intensity == 0))else(bif (((!(zob a0.Light)) || (!(zl a0.Intensity 1 100000000))) || (!(zr a0.Sectors)))then false else(bif ((a0.Sectors.length:Int) == 0)then((a0.Light.Colors.length:Int) == 1)else((zkc a0.Sectors) == a0.Light.Colors)))))
namespace N98
theorem DD:DOk Tryz.prog (Go.Ab.DD [(170,dP D_zl),(195,dP D_zvb),(196,dP D_zcc),(197,dP D_zvc),(198,dP D_zmd),(199,dP D_zob),(200,dP D_zr),(201,dP D_zkc)]):=ya ylg.e <| ya y5s.e <| ya yus.e <| ya yc0.e <| ya yf0.e <| ya ybt.e <| ya yax.e <| ya yv1.e <| ye _
theorem dn:type_of% (And.intro @D_zl.eq_1 <| And.intro @D_zvb.eq_1 <| And.intro @D_zcc.eq_1 <| And.intro @D_zvc.eq_1 <| And.intro @D_zmd.eq_1 <| And.intro @D_zob.eq_1 <| And.intro @D_zr.eq_1 <| @D_zkc.eq_1):=by and_intros<;>intros<;>rfl
theorem ol:type_of% (@zl.eq_1):=@zl.eq_1
theorem den (a0:Aid) (hb0:bdAid a0):Den Tryz.prog 98 [.ep (eAid a0)] (.bool (zdc a0)):=by
 generalize hR:zdc a0=r
 unfold zdc at hR
 refine di Tryz.func98 Tryz.ntmps98 Tryz.results98 ?_
 intro c hL hc hk
 obtain⟨hL0,_⟩:=hL
 have hw0:bwAid a0:=yuc a0 hL0
 clear hL0
 simp only[pars,Nat.zero_add]
 iterate 2 refine rS ?_
 refine AWP.cond rfl (fun hb => ?_) (fun hb => ?_)
 ·replace hR:=ct hR
  refine rS ?_
  refine AWP.ret ?_
  subst hR
  exact es
 ·replace hR:=cf hR
  refine rS ?_
  refine AWP.cond rfl (fun hb => ?_) (fun hb => ?_)
  ·replace hR:=ct hR
   refine rS ?_
   refine AWP.ret ?_
   subst hR
   exact es
  ·replace hR:=cf hR
   refine rS ?_
   refine AWP.cond rfl (fun hb => ?_) (fun hb => ?_)
   ·replace hR:=ct hR
    refine rS ?_
    refine AWP.ret ?_
    subst hR
    exact es
   ·replace hR:=cf hR
    refine rS ?_
    refine AWP.cond rfl (fun hb => ?_) (fun hb => ?_)
    ·replace hR:=ct hR
     refine rS ?_
     refine AWP.ret ?_
     subst hR
     exact es
    ·replace hR:=cf hR
     refine rD 11 ?_
     refine AWP.ret ?_
     subst hR
     exact es
end N98
def D_zdc : DF
 | [x0]=>some (.bool (zdc (rdP dAid x0)),false,[wP eAid dAid x0,bdAid (rdP dAid x0)])
 | _=>none
theorem yn0:OkD Tryz.prog 98 D_zdc:=by unfold D_zdc;exact dk N98.den
end Go.Ab

namespace Go.Ab
open Go Go.Proofs
theorem ybo (c:Character) (h:zmd c=true):zw c=false:=by
 unfold zmd at h
 simp only[Bool.and_eq_true,beq_iff_eq]at h
 obtain⟨⟨⟨⟨h1,h2⟩,h3⟩,h4⟩,h5⟩:=h
 cases c
 simp only at h1 h2 h3 h4 h5
 rename_i k g l cs p
 have hg:g=[]:=List.length_eq_zero_iff.1 (by omega)
 subst h1 hg h3 h4 h5
 decide
theorem y50 (a:Aid):zsf a=((zmd a.Light && ((a.Sectors.length:Int) == 0)) && (a.Intensity == 0)):=by
 unfold zsf zzf zmd
 rw[ydl]
 have:decide (a.Light.Group=[])=((a.Light.Group.length:Int) == 0):=by
  cases a.Light.Group with
  | nil=>rfl
  | cons x l=>simp;omega
 rw[this]
theorem yjg (a:Aid) (hl:a.Light.Colors.length<9223372036854775808) (hs:a.Sectors.length<9223372036854775807):znf a=zdc a:=by
 unfold znf zdc
 rw[y50]
 unfold zbe
 rw[ynb a.Sectors hs,yri,yqd,ycx]
 have e1:zag a.Number=zl a.Number 1 9999:=rfl
 have e2:zcd a.At=zcc a.At:=rfl
 have e3:zbg a.Height=zl a.Height 0 3000:=rfl
 have e4:zrf a.Intensity=zl a.Intensity 1 100000000:=rfl
 rw[e1,e2,e3,e4]
 cases hp:zmd a.Light with
 | true=>
  rw[ybo _ hp]
  simp only[Bool.not_false,Bool.true_or,cond_true,Bool.true_and,Bool.false_or]
  cases zl a.Number 1 9999<;>cases zvb a.Name<;>cases zcc a.At<;>cases zl a.Height 0 3000<;>cases zvc a.Mark<;>rfl
 | false=>
  rw[ypf a.Light hl]
  simp only[Bool.false_and,Bool.or_false,cond_false]
  cases zl a.Number 1 9999<;>cases zvb a.Name<;>cases zcc a.At<;>cases zl a.Height 0 3000<;>cases zvc a.Mark<;>rfl
end Go.Ab

namespace Go.Ab
open Go Go.Proofs
def InR (s:List Int):Prop:=∀ v∈s,0≤v∧v≤100
theorem InR.app {s t:List Int} (h1:InR s) (h2:InR t):InR (s++t):=fun v hv=>(List.mem_append.1 hv).elim (h1 v) (h2 v)
theorem InR.one {x:Int} (h1:0≤x) (h2:x≤100):InR [x]:=fun v hv=>by rw[List.mem_singleton]at hv;subst hv;exact⟨h1,h2⟩
theorem InR.nil:InR []:=fun v hv=>by simp at hv
theorem yby (k:Int):0≤zvd k∧zvd k≤100:=by
 unfold zvd
 simp only[Bool.cond_eq_ite]
 repeat' split
 all_goals omega
theorem ygs (k:Int):0≤zyb k∧zyb k≤20:=by
 unfold zyb
 simp only[Bool.cond_eq_ite]
 repeat' split
 all_goals omega
theorem ye0 (k:Int):0≤IntKind.wrap .i64 (zyb k+20)∧IntKind.wrap .i64 (zyb k+20)≤100:=by
 have:=ygs k
 rw[IntKind.wrap_i64];omega
theorem yxx (c:Character) (h1:c.Group.length≤4) (h2:∀ v∈c.Group,1≤v∧v≤9):InR (zp c)∧(zp c).length≤80:=by
 have hf:=yby c.Kind
 have hg:=ygs c.Kind
 have hw:=ye0 c.Kind
 unfold zp
 cases hk:(c.Kind == 8)with
 | true=>
  simp only[cond_true]
  have hm:(zmb ((c.Letter.getD 0 0).toNat:Int)).length≤4:=yho _
  have hmr:∀ j,0≤(zmb ((c.Letter.getD 0 0).toNat:Int)).getD j default∧(zmb ((c.Letter.getD 0 0).toNat:Int)).getD j default≤100:=by
   intro j
   rw[ycg,List.getD_eq_getElem?_getD,List.getElem?_map]
   cases(y4c.getD (IntKind.wrap .u8 (((c.Letter.getD 0 0).toNat:Int)-65)).toNat default)[j]? with
   | none=>show(0:Int)≤0∧(0:Int)≤100;omega
   | some x=>simp only[Option.map_some,Option.getD_some];split<;>omega
  obtain⟨t,q1,q2,q3⟩:=yu (b:=ytp c) (fun i s=>InR s∧s.length≤2 * i) (k:=(zmb ((c.Letter.getD 0 0).toNat:Int)).length-0) (i:=0) (s:=[]) ⟨InR.nil,by simp⟩ (fun j u _ _ h=>by
   unfold ytp
   cases decide (0<(j:Int))with
   | true=>exact⟨_,rfl,(h.1.app (InR.one (by omega) (by omega))).app (InR.one (hmr j).1 (hmr j).2),by simp only[List.length_append,List.length_singleton];omega⟩
   | false=>exact⟨_,rfl,h.1.app (InR.one (hmr j).1 (hmr j).2),by simp only[List.length_append,List.length_singleton];omega⟩)
  rw[q1]
  exact⟨q2,by simp only;omega⟩
 | false=>
  simp only[cond_false]
  have hend:∀ s:List Int,InR s→s.length≤72→InR (bif (c.Letter == [76])then s++[zyb c.Kind,20]else s)∧(bif (c.Letter == [76])then s++[zyb c.Kind,20]else s).length≤80:=by
   intro s h3 h4
   cases(c.Letter == [76])with
   | true=>exact⟨h3.app (fun v hv=>by simp only[List.mem_cons,List.not_mem_nil,or_false]at hv;rcases hv with h|h<;>subst h<;>omega),by simp only[cond_true,List.length_append,List.length_cons,List.length_nil];omega⟩
   | false=>exact⟨h3,by simp only[cond_false];omega⟩
  cases hz:((c.Group.length:Int) == 0)with
  | true=>
   simp only[cond_true]
   obtain⟨t,q1,q2,q3⟩:=yu (b:=yop c) (fun i s=>InR s∧s.length≤18 * i) (k:=1-0) (i:=0) (s:=[]) ⟨InR.nil,by simp⟩ (fun j u _ hj h=>by
    unfold yop
    have hj0:j=0:=by omega
    obtain⟨t,q1,q2,q3⟩:=yu (b:=ycq c j u) (fun i s=>InR s∧s.length≤18 * j+2 * i) (k:=(([1]:List Int).getD j default).toNat-0) (i:=0) (s:=u) ⟨h.1,by omega⟩ (fun i w _ hi h=>by
     unfold ycq
     cases decide (0<(i:Int))with
     | true=>exact⟨_,rfl,(h.1.app (InR.one hg.1 (by omega))).app (InR.one hf.1 hf.2),by simp only[List.length_append,List.length_singleton];omega⟩
     | false=>
      cases decide (0<(j:Int))with
      | true=>exact⟨_,rfl,(h.1.app (InR.one hw.1 hw.2)).app (InR.one hf.1 hf.2),by simp only[List.length_append,List.length_singleton];omega⟩
      | false=>exact⟨_,rfl,h.1.app (InR.one hf.1 hf.2),by simp only[List.length_append,List.length_singleton];omega⟩)
    rw[q1]
    subst hj0
    exact⟨t,rfl,q2,by simp only[List.getD_cons_zero]at q3;omega⟩)
   rw[q1]
   exact hend t q2 (by omega)
  | false=>
   simp only[cond_false]
   obtain⟨t,q1,q2,q3⟩:=yu (b:=yao c) (fun i s=>InR s∧s.length≤18 * i) (k:=c.Group.length-0) (i:=0) (s:=[]) ⟨InR.nil,by simp⟩ (fun j u _ hj h=>by
    unfold yao
    have hgj:=yuf h2 j
    obtain⟨t,q1,q2,q3⟩:=yu (b:=yno c j u) (fun i s=>InR s∧s.length≤18 * j+2 * i) (k:=(c.Group.getD j default).toNat-0) (i:=0) (s:=u) ⟨h.1,by omega⟩ (fun i w _ hi h=>by
     unfold yno
     cases decide (0<(i:Int))with
     | true=>exact⟨_,rfl,(h.1.app (InR.one hg.1 (by omega))).app (InR.one hf.1 hf.2),by simp only[List.length_append,List.length_singleton];omega⟩
     | false=>
      cases decide (0<(j:Int))with
      | true=>exact⟨_,rfl,(h.1.app (InR.one hw.1 hw.2)).app (InR.one hf.1 hf.2),by simp only[List.length_append,List.length_singleton];omega⟩
      | false=>exact⟨_,rfl,h.1.app (InR.one hf.1 hf.2),by simp only[List.length_append,List.length_singleton];omega⟩)
    rw[q1]
    exact⟨t,rfl,q2,by omega⟩)
   rw[q1]
   exact hend t q2 (by omega)
theorem yg1 (l:List Int) (h:InR l) (hl:l.length≤80):0≤zqd l∧zqd l≤8000:=by
 unfold zqd
 obtain⟨t,q1,q2,q3⟩:=yu (b:=y7p l) (fun i s=>0≤s∧s≤100 * i) (k:=l.length-0) (i:=0) (s:=0) ⟨by omega,by omega⟩ (fun j u _ hj hI=>by
  have hx:0≤l.getD j default∧l.getD j default≤100:=by
   rw[List.getD_eq_getElem?_getD,List.getElem?_eq_getElem (by omega),Option.getD_some]
   exact h _ (List.getElem_mem _)
  refine⟨_,rfl,?_⟩
  rw[IntKind.wrap_i64];omega)
 rw[q1]
 exact⟨q2,by simp only;omega⟩
theorem y9w (c:Character) (h:zbb c=true) (hs:ztc c=false):0<zaf c:=by
 obtain⟨g1,g2⟩:=ytd c h
 obtain⟨t1,t2⟩:=yxx c g1 g2
 have t3:=yg1 _ t1 t2
 have hg:=ygs c.Kind
 unfold zaf
 rw[← ynj,hs]
 simp only[cond_false]
 cases(c.Kind == 3)with
 | true=>simp
 | false=>
  simp only[cond_false]
  have hr:0<zze c∧zze c≤100:=by
   unfold zze
   simp only[Bool.cond_eq_ite]
   repeat' split
   all_goals (try rw[IntKind.wrap_i64]);(try rw[IntKind.wrap_i64]);omega
  rw[IntKind.wrap_i64];omega
end Go.Ab

namespace Go.Ab
open Go Go.Proofs
theorem yet (k:Int):(zac k).length≤3:=by
 unfold zac zkb
 simp only[Bool.cond_eq_ite]
 split
 ·simp
 ·rw[List.getD_eq_getElem?_getD]
  have h:∀ x∈([[],[70],[79,99],[73,115,111],[70,108],[76,70,108],[81],[86,81],[77,111]]:List (List UInt8)),x.length≤3:=by decide
  cases hg:([[],[70],[79,99],[73,115,111],[70,108],[76,70,108],[81],[86,81],[77,111]]:List (List UInt8))[k.toNat]? with
  | none=>show(0:Nat)≤3;omega
  | some x=>exact h x (List.mem_of_getElem? hg)
end Go.Ab

namespace Go.Ab
open Go Go.Proofs
theorem y0k (xs:List (List UInt8)) (h:∀ v∈xs,v.length≤20):(zub xs [43]).length≤21 * xs.length∧(Go.Lib.join xs [43]).length≤21 * xs.length:=by
 have h1:=yoh [43] xs 20 h
 simp only[List.length_singleton]at h1
 exact⟨by show(Go.Lib.join xs [43]).length≤_;omega,by omega⟩
end Go.Ab

namespace Go.Ab
open Go Go.Proofs
def y3l (a0:Character) (i1:Nat) (s1:List (List UInt8)):Except ((List UInt8)) (List (List UInt8)):=
 .ok (s1++[(zo (a0.Group.getD i1 default))])
def zgd (a0:Character):(List UInt8):=
 (bif (a0.Kind == 8)then(((zac a0.Kind)++[40])++a0.Letter)++[41]else(bif decide (0<(a0.Group.length:Int))then(match yd (y3l a0) (a0.Group.length-0) 0 ([]:List (List UInt8))with|.error e=>e|.ok s1=>(bif (a0.Letter != [])then((zac a0.Kind)++(([40]++(zub s1 [43]))++[41]))++[43,76,70,108]else(zac a0.Kind)++(([40]++(zub s1 [43]))++[41])))else(bif (a0.Letter != [])then(zac a0.Kind)++[43,76,70,108]else(zac a0.Kind))))
namespace N217
theorem DD:DOk Tryz.prog (Go.Ab.DD [(107,dP D_zo),(263,dP D_zac),(83,dP D_zub)]):=ya yjk.e <| ya ypt.e <| ya ycj.e <| ye _
theorem dn:type_of% (And.intro @D_zo.eq_1 <| And.intro @D_zac.eq_1 <| @D_zub.eq_1):=by and_intros<;>intros<;>rfl
theorem gr {p:Prop} (h:p:=by(grind [y7e]);first|done|fail):p:=h
theorem o0 {p:Prop} (h:p:=by(first|(have h9:=y0k s1 (by first|exact hW1|exact hW1.2);first|omega|(simp only[ob,ln,List.length_singleton,List.length_append,List.length_cons,List.length_nil]at *;omega)|(and_intros<;>first|omega|(simp only[ob,ln,List.length_singleton,List.length_append,List.length_cons,List.length_nil]at *;omega)))|(have h9:=hg9 i1;and_intros<;>omega)|(simp only[ob,ln,List.length_singleton,List.length_append,List.length_cons,List.length_nil]at *;omega));first|done|fail):p:=h
theorem o1 {p:Prop} (h:p:=by(first|(have h9:=y0k s1 hW1.2;have h8:=hW1.1;simp only[ob,ln,List.length_singleton,List.length_append,List.length_cons,List.length_nil]at *;omega)|(have h9:=hg9 i1;omega));first|done|fail):p:=h
set_option maxHeartbeats 1000000 in
set_option maxRecDepth 20000 in
theorem den (a0:Character) (hb0:bdCharacter a0) (hp0:a0.Group.length≤4) (hp1:∀ v∈a0.Group,1≤v∧v≤9):Den Tryz.prog 217 [.agg (yi a0)] (.str (zgd a0)):=by
 generalize hR:zgd a0=r
 unfold zgd at hR
 refine di Tryz.func217 Tryz.ntmps217 Tryz.results217 ?_
 intro c hL hc hk
 obtain⟨hL0,_⟩:=hL
 have hw0:bwCharacter a0:=yp a0 hL0
 clear hL0
 simp only[pars,Nat.zero_add]
 have hg9:∀ i:Nat,0≤a0.Group.getD i default∧a0.Group.getD i default≤9:=fun i=>yuf hp1 i
 have hk9:=yet a0.Kind
 iterate 3 refine rS ?_
 refine AWP.cond rfl (fun hb => ?_) (fun hb => ?_)
 ·replace hR:=ct hR
  refine rS ?_
  refine AWP.ret ?_
  subst hR
  exact es
 ·replace hR:=cf hR
  refine rS ?_
  refine AWP.cond rfl (fun hb => ?_) (fun hb => ?_)
  ·replace hR:=ct hR
   iterate 2 refine rS ?_
   refine AWP.block ?_
   refine AWP.lensS 20 rfl (fun hLn1 => ?_)
   generalize hz1:yd (y3l a0) (a0.Group.length-0) 0 ([]:List (List UInt8))=z1 at hR
   refine AWP.range (y3l a0) (fun i1 s1=>⟨[(1,.ptr 0 0),(3,.str (zac a0.Kind)),(4,.ref 1 1 0 s1.length),(25,encL 1 yt a0.Group),(26,.int .i64 (a0.Group.length:Int)),(27,.int .i64 (i1:Int))],[.box [.int .i64 a0.Kind,encL 1 yt a0.Group,.str a0.Letter,.str a0.Colors,.int .i64 a0.Period],.arr 9 1 s1.length (fun j=>eS (s1.getD j default))]⟩) (fun i1 s1=>s1.length≤([]:List (List UInt8)).length+1 * i1∧∀ v∈s1,v.length≤20) (a0.Group.length) 0 ([]:List (List UInt8)) [0,1] hz1 ot wt sm ?_
   clear hz1
   intro i1 s1 hi1 hW1 hz1
   refine rS ?_
   refine AWP.seq ?_
   refine AWP.cond rfl (fun hb => ?_) (fun hb => ?_)
   ·have hlt1:i1<a0.Group.length:=ot
    rw[yh hlt1]at hz1;simp only[y3l]at hz1
    iterate 3 refine rS ?_
    exact⟨_,[0,3],hlt1,by(and_intros<;>first|(simp only[ln,List.length_append,List.length_singleton,List.length_nil]at *;omega)|(intro v hv;exact(List.mem_append.1 hv).elim (fun h=>by first|exact hW1 v h|exact hW1.2 v h|exact hW1.2.2 v h) (fun h=>by rw[List.mem_singleton]at h;subst h;exact y4e _ (by have:=hg9 i1;omega) (by have:=hg9 i1;omega)))),hz1,sm⟩
   ·obtain rfl:i1=a0.Group.length:=ot
    rw[yg (Nat.le_refl _)]at hz1;subst hz1;dsimp only at hR
    refine AWP.exit ?_;refine yb ?_
    iterate 2 refine rS ?_
    refine AWP.cond rfl (fun hb => ?_) (fun hb => ?_)
    ·replace hR:=ct hR
     iterate 2 refine rS ?_
     refine AWP.ret ?_
     subst hR
     exact es
    ·replace hR:=cf hR
     refine rS ?_
     refine AWP.ret ?_
     subst hR
     exact es
  ·replace hR:=cf hR
   refine rS ?_
   refine AWP.cond rfl (fun hb => ?_) (fun hb => ?_)
   ·replace hR:=ct hR
    iterate 2 refine rS ?_
    refine AWP.ret ?_
    subst hR
    exact es
   ·replace hR:=cf hR
    refine rS ?_
    refine AWP.ret ?_
    subst hR
    exact es
end N217
def D_zgd : DF
 | [x0]=>some (.str (zgd (rdG yc x0)),false,[wG yi yc x0,bdCharacter (rdG yc x0),(rdG yc x0).Group.length≤4,∀ v∈(rdG yc x0).Group,1≤v∧v≤9])
 | _=>none
theorem y8z:OkD Tryz.prog 217 D_zgd:=by unfold D_zgd;exact dk N217.den
end Go.Ab

namespace Go.Ab
open Go Go.Proofs
def zwd (a0:Int):(List UInt8):=
 (bif ((a0.tmod 10) == 0)then(zo (IntKind.wrap .i64 (a0.tdiv 10)))else((zo (IntKind.wrap .i64 (a0.tdiv 10)))++[46])++(zo (a0.tmod 10)))
namespace N218
theorem DD:DOk Tryz.prog (Go.Ab.DD [(107,dP D_zo)]):=ya yjk.e <| ye _
theorem dn:type_of% (@D_zo.eq_1):=by and_intros<;>intros<;>rfl
theorem gr {p:Prop} (h:p:=by(grind [y7e]);first|done|fail):p:=h
set_option maxHeartbeats 400000 in
set_option maxRecDepth 20000 in
theorem den (a0:Int) (hp0 : -9223372036854775808≤a0) (hp1:a0≤9223372036854775807):Den Tryz.prog 218 [.int .i64 a0] (.str (zwd a0)):=by
 generalize hR:zwd a0=r
 unfold zwd at hR
 refine di Tryz.func218 Tryz.ntmps218 Tryz.results218 ?_
 intro c hL hc hk
 clear hL
 simp only[pars,Nat.zero_add]
 have h1:=ybm (a0.tdiv 10)
 have ht:=y1i a0
 have h2:=y4e (a0.tmod 10) (by omega) (by omega)
 iterate 2 refine rS ?_
 refine AWP.cond rfl (fun hb => ?_) (fun hb => ?_)
 ·replace hR:=ct hR
  refine rS ?_
  refine AWP.ret ?_
  subst hR
  exact es
 ·replace hR:=cf hR
  refine rS ?_
  refine AWP.ret ?_
  subst hR
  exact es
end N218
def D_zwd : DF
 | [x0]=>some (.str (zwd (rdI x0)),false,[wI .i64 x0,-9223372036854775808≤(rdI x0),(rdI x0)≤9223372036854775807])
 | _=>none
theorem yvu:OkD Tryz.prog 218 D_zwd:=by unfold D_zwd;exact dk N218.den
end Go.Ab

namespace Go.Ab
open Go Go.Proofs
theorem y6b (a:Character) (h:zw a=true):zbb a=true:=by
 unfold zw at h
 cases hf:zbb a with
 | true=>rfl
 | false=>rw[hf]at h;simp at h
theorem yr1 (a:Character) (h:zw a=true):a.Period≤600:=by
 unfold zw at h
 cases h1:((!(zrb a.Colors)) || (!(zbb a)))with
 | true=>rw[h1]at h;cases h
 | false=>
  rw[h1]at h
  cases h2:ztc a with
  | true=>rw[h2]at h;simp at h;omega
  | false=>rw[h2]at h;simp[zf]at h;omega
theorem y0c (a:Character) (h:zw a=true):a.Group.length≤4∧(∀ v∈a.Group,1≤v∧v≤9)∧a.Period≤600:=by
 have h1:=ytd a (y6b a h)
 exact⟨h1.1,h1.2,yr1 a h⟩
theorem ylq (a:Character) (h1:a.Group.length≤4) (h2:∀ v∈a.Group,1≤v∧v≤9):(zgd a).length≤200+a.Letter.length:=by
 unfold zgd
 have hk:=yet a.Kind
 obtain⟨t,q1,q2,q3⟩:=yu (b:=y3l a) (fun i s=>s.length=i∧∀ v∈s,v.length≤20) (k:=a.Group.length-0) (i:=0) (s:=[]) ⟨rfl,by simp⟩ (fun j u _ _ h=>⟨_,rfl,by simp[h.1],fun v hv=>by
  rcases List.mem_append.1 hv with h9|h9
  ·exact h.2 v h9
  ·rw[List.mem_singleton]at h9;subst h9
   have:=yuf h2 j
   exact y4e _ (by omega) (by omega)⟩)
 rw[q1]
 have hj:=(y0k t q3).1
 simp only[Bool.cond_eq_ite]
 repeat' split
 all_goals ((try simp only[List.length_append,List.length_cons,List.length_nil]);omega)
theorem yfo (a:Character) (h:zw a=true):(ztc a=true∧a.Period=0)∨(ztc a=false∧0<a.Period∧a.Period≤600):=by
 have hf:=y6b a h
 unfold zw at h
 cases h1:((!(zrb a.Colors)) || (!(zbb a)))with
 | true=>rw[h1]at h;cases h
 | false=>
  rw[h1]at h
  cases h2:ztc a with
  | true=>rw[h2]at h;left;simpa using h
  | false=>
   rw[h2,ynt a hf h2]at h
   have:=y9w a hf h2
   right
   simp[zf]at h
   exact⟨rfl,by omega,by omega⟩
theorem yfd (a:Character) (h:zw a=true):0≤a.Period:=by
 rcases yfo a h with⟨_,h⟩|⟨_,h,_⟩<;>omega
theorem yld (a:Character) (h:zbb a=true):1≤a.Kind∧a.Kind≤8:=by
 unfold zbb at h
 simp only[Bool.cond_eq_ite]at h
 repeat' split at h
 all_goals (try simp only[beq_iff_eq]at *)
 all_goals first|omega|(cases h;done)
theorem yvx (a:Character) (hl:a.Colors.length<9223372036854775808) (h:zob a=true):a.Group.length≤4∧(∀ v∈a.Group,1≤v∧v≤9)∧1≤a.Kind∧a.Kind≤8∧0≤a.Period∧a.Period≤600:=by
 rw[← ypf a hl]at h
 have h1:=y0c a h
 have h2:=yld a (y6b a h)
 exact⟨h1.1,h1.2.1,h2.1,h2.2,yfd a h,h1.2.2⟩
theorem y7q (n:Int) (h1 : -9223372036854775808≤n) (h2:n≤9223372036854775807):(zwd n).length≤41:=by
 unfold zwd
 have h3:=ybm (n.tdiv 10)
 have ht:=y1i n
 have h4:=y4e (n.tmod 10) (by omega) (by omega)
 simp only[Bool.cond_eq_ite]
 split
 ·omega
 ·simp only[List.length_append,List.length_cons,List.length_nil];omega
end Go.Ab
