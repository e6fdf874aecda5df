/- A part of a proof: walks of functions and lemmas of our own. No conditions. -/
import Derived.Test.YtopoomikfjodkaaGreatDoorUAl
import Derived.Test.YtopoomikfjodkaaGreatDoorUAs
import Derived.Test.YtopoomikfjodkaaGreatDoorUAt
import Derived.Test.YtopoomikfjodkaaGreatDoorUAv
import Derived.Test.YtopoomikfjodkaaGreatDoorUAo
import Derived.Test.YtopoomikfjodkaaGreatDoorUAq
import Derived.Test.YtopoomikfjodkaaGreatDoorUAi
import Derived.Test.YtopoomikfjodkaaGreatDoorUAn
set_option linter.unusedSectionVars false
set_option linter.unusedVariables false
set_option linter.unusedSimpArgs false
set_option maxHeartbeats 1000000
namespace Go.Ab
open Go Go.Proofs
def y4m (a0:Character) (i1:Nat) (s1:List Int):Except ((List Int)) (List Int):=
 (bif decide (0<(i1:Int))then .ok ((s1++([5]:List Int))++([((zjb ((a0.Letter.getD 0 0).toNat:Int)).getD i1 default)]:List Int))else .ok (s1++([((zjb ((a0.Letter.getD 0 0).toNat:Int)).getD i1 default)]:List Int)))
def ywo (a0:Character) (i2:Nat) (s2:List Int) (i3:Nat) (s3:List Int):Except ((List Int)) (List Int):=
 (bif decide (0<(i3:Int))then .ok ((s3++([(ztb a0.Kind)]:List Int))++([(zkd a0.Kind)]:List Int))else(bif decide (0<(i2:Int))then .ok ((s3++([IntKind.wrap .i64 ((ztb a0.Kind)+20)]:List Int))++([(zkd a0.Kind)]:List Int))else .ok (s3++([(zkd a0.Kind)]:List Int))))
def ylp (a0:Character) (i2:Nat) (s2:List Int):Except ((List Int)) (List Int):=
 (match yd (ywo a0 i2 s2) (((([1]:List Int).getD i2 default)).toNat-0) 0 s2 with|.error e=>.error e|.ok s3=>.ok s3)
def y1o (a0:Character) (i4:Nat) (s4:List Int) (i5:Nat) (s5:List Int):Except ((List Int)) (List Int):=
 (bif decide (0<(i5:Int))then .ok ((s5++([(ztb a0.Kind)]:List Int))++([(zkd a0.Kind)]:List Int))else(bif decide (0<(i4:Int))then .ok ((s5++([IntKind.wrap .i64 ((ztb a0.Kind)+20)]:List Int))++([(zkd a0.Kind)]:List Int))else .ok (s5++([(zkd a0.Kind)]:List Int))))
def ygn (a0:Character) (i4:Nat) (s4:List Int):Except ((List Int)) (List Int):=
 (match yd (y1o a0 i4 s4) (((a0.Group.getD i4 default)).toNat-0) 0 s4 with|.error e=>.error e|.ok s5=>.ok s5)
def zo (a0:Character):(List Int):=
 (bif (a0.Kind == 8)then(match yd (y4m a0) (((zjb ((a0.Letter.getD 0 0).toNat:Int)).length)-0) 0 ([]:List Int)with|.error e=>e|.ok s1=>s1)else(bif ((a0.Group.length:Int) == 0)then(match yd (ylp a0) (1-0) 0 ([]:List Int)with|.error e=>e|.ok s2=>(bif (a0.Letter == [76])then s2++([(ztb a0.Kind),20]:List Int)else s2))else(match yd (ygn a0) (a0.Group.length-0) 0 ([]:List Int)with|.error e=>e|.ok s4=>(bif (a0.Letter == [76])then s4++([(ztb a0.Kind),20]:List Int)else s4))))
namespace N329
theorem DD:DOk Tryz.prog (Go.Ab.DD [(367,dP D_zjb),(368,dP D_ztb),(369,dP D_zkd)]):=ya y2x.e <| ya yqt.e <| ya yzx.e <| ye _
theorem dn:type_of% (And.intro @D_zjb.eq_1 <| And.intro @D_ztb.eq_1 <| @D_zkd.eq_1):=by and_intros<;>intros<;>rfl
theorem o2 {p:Prop} (h:p:=by(first|(and_intros<;>first|decide|omega|(simp;(first|done|fail))|(rw[IntKind.wrap_i64];have:=hg9 i4;omega)|(rw[IntKind.wrap_i64];have:=hg1 i2;omega)|(rw[IntKind.wrap_i64];omega)|(intro i hi;exact y7d _ _ i hi)|(intro i hi;exact yvp _ _ _ i hi)));first|done|fail):p:=h
theorem o3 {p:Prop} (h:p:=by(first|(refine⟨⟨Nat.le_refl _,fun i hi=>yym _ _ _ i hi⟩,.inl fun i hi=>by rw[yii _ _ _ i hi];simp[NoBorL,NoBor],by simp,fun i hi=>by rw[yii _ _ _ i hi];exact y7 _⟩));first|done|fail):p:=h
theorem lx {p:Prop} (h:p:=by(exact lxx);first|done|fail):p:=h
set_option maxHeartbeats 1000000 in
set_option maxRecDepth 20000 in
theorem den (a0:Character) (hb0:bdCharacter a0) (hp0:a0.Group.length≤4) (hp1:∀ v∈a0.Group,v≤9) (hp2:a0.Kind=8→a0.Letter.length=1∧65≤(a0.Letter.getD 0 0).toNat∧(a0.Letter.getD 0 0).toNat≤90):Den Tryz.prog 329 [.ep (yf a0)] (ownL 2 1 yq (zo a0)):=by
 generalize hR:zo a0=r
 unfold zo at hR
 refine di Tryz.func329 Tryz.ntmps329 Tryz.results329 ?_
 intro c hL hc hk
 obtain⟨hL0,_⟩:=hL
 have hw0:bwCharacter a0:=yn a0 hL0
 clear hL0
 simp only[pars,Nat.zero_add]
 have hg9:∀ i:Nat,a0.Group.getD i default≤9:=fun i=>yll hp1 i
 have hs9:=y4o ((a0.Letter.getD 0 0).toNat:Int)
 have hg1:∀ i:Nat,([1]:List Int).getD i default≤9:=fun i=>yll (by simp) i
 iterate 3 refine rS ?_
 refine AWP.cond rfl (fun hb => ?_) (fun hb => ?_)
 ·replace hR:=ct hR
  iterate 2 refine rS ?_
  refine AWP.block ?_
  generalize hz1:yd (y4m a0) (((zjb ((a0.Letter.getD 0 0).toNat:Int)).length)-0) 0 ([]:List Int)=z1 at hR
  refine AWP.range (y4m a0) (fun i1 s1=>⟨[(3,.ref 0 1 0 s1.length),(4,.ref 1 1 0 ((zjb ((a0.Letter.getD 0 0).toNat:Int)).length)),(5,.int .i64 (i1:Int))],[.arr 2 1 s1.length (fun j=>yq (s1.getD j default)),.arr 2 1 (zjb ((a0.Letter.getD 0 0).toNat:Int)).length (fun j=>yq ((zjb ((a0.Letter.getD 0 0).toNat:Int)).getD j default))]⟩) (fun i1 s1=>s1.length≤([]:List Int).length+2 * i1∧s1.length≤2 * i1) (((zjb ((a0.Letter.getD 0 0).toNat:Int)).length)) 0 ([]:List Int) [0,1] hz1 ot wt sm ?_
  clear hz1
  intro i1 s1 hi1 hW1 hz1
  refine rS ?_
  refine AWP.cond rfl (fun hb => ?_) (fun hb => ?_)
  ·have hlt1:i1<((zjb ((a0.Letter.getD 0 0).toNat:Int)).length):=ot
   rw[yh hlt1]at hz1;simp only[y4m]at hz1
   refine rS ?_
   refine AWP.cond rfl (fun hb => ?_) (fun hb => ?_)
   ·simp only[hb,cond_true]at hz1
    iterate 3 refine rS ?_
    exact⟨_,[5,1],hlt1,wt,hz1,sm⟩
   ·simp only[hb,cond_false]at hz1
    iterate 2 refine rS ?_
    exact⟨_,[3,1],hlt1,wt,hz1,sm⟩
  ·obtain rfl:i1=((zjb ((a0.Letter.getD 0 0).toNat:Int)).length):=ot
   rw[yg (Nat.le_refl _)]at hz1;subst hz1;dsimp only at hR
   refine AWP.exit ?_;refine yb ?_
   refine rS ?_
   refine AWP.ret ?_
   subst hR
   exact es
 ·replace hR:=cf hR
  iterate 2 refine rS ?_
  refine AWP.cond rfl (fun hb => ?_) (fun hb => ?_)
  ·replace hR:=ct hR
   iterate 2 refine rS ?_
   refine AWP.block ?_
   generalize hz2:yd (ylp a0) (1-0) 0 ([]:List Int)=z2 at hR
   refine AWP.range (ylp a0) (fun i2 s2=>⟨[(0,.ep (yf a0)),(3,.ref 0 1 0 s2.length),(6,.ref 1 1 0 1),(7,.int .i64 (i2:Int))],[.arr 2 1 s2.length (fun j=>yq (s2.getD j default)),.arr 2 1 ([1]:List Int).length (fun j=>yq (([1]:List Int).getD j default))]⟩) (fun i2 s2=>s2.length≤18 * i2) (1) 0 ([]:List Int) [0,1] hz2 ot wt sm ?_
   clear hz2
   intro i2 s2 hi2 hW2 hz2
   refine rS ?_
   refine AWP.cond rfl (fun hb => ?_) (fun hb => ?_)
   ·have hlt2:i2<1:=ot
    rw[yh hlt2]at hz2;simp only[ylp]at hz2
    refine rS ?_
    refine AWP.block ?_
    generalize hz3:yd (ywo a0 i2 s2) (((([1]:List Int).getD i2 default)).toNat-0) 0 s2=z3 at hz2
    refine AWP.range (ywo a0 i2 s2) (fun i3 s3=>⟨[(0,.ep (yf a0)),(3,.ref 0 1 0 s3.length),(6,.ref 1 1 0 1),(7,.int .i64 (i2:Int)),(8,.int .i64 (i3:Int))],[.arr 2 1 s3.length (fun j=>yq (s3.getD j default)),.arr 2 1 ([1]:List Int).length (fun j=>yq (([1]:List Int).getD j default))]⟩) (fun i3 s3=>s3.length≤s2.length+2 * i3∧s3.length≤18 * i2+2 * i3) (((([1]:List Int).getD i2 default)).toNat) 0 s2 [0,1] hz3 ot wt sm ?_
    clear hz3
    intro i3 s3 hi3 hW3 hz3
    refine rS ?_
    refine AWP.cond rfl (fun hb => ?_) (fun hb => ?_)
    ·have hlt3:i3<((([1]:List Int).getD i2 default)).toNat:=ot
     rw[yh hlt3]at hz3;simp only[ywo]at hz3
     refine rS ?_
     refine AWP.cond rfl (fun hb => ?_) (fun hb => ?_)
     ·simp only[hb,cond_true]at hz3
      iterate 3 refine rS ?_
      exact⟨_,[5,1],hlt3,wt,hz3,sm⟩
     ·simp only[hb,cond_false]at hz3
      refine rS ?_
      refine AWP.cond rfl (fun hb => ?_) (fun hb => ?_)
      ·simp only[hb,cond_true]at hz3
       iterate 3 refine rS ?_
       exact⟨_,[5,1],hlt3,wt,hz3,sm⟩
      ·simp only[hb,cond_false]at hz3
       iterate 2 refine rS ?_
       exact⟨_,[3,1],hlt3,wt,hz3,sm⟩
    ·obtain rfl:i3=((([1]:List Int).getD i2 default)).toNat:=ot
     rw[yg (Nat.le_refl _)]at hz3;subst hz3;dsimp only at hz2
     refine AWP.exit ?_;refine yb ?_
     refine rS ?_
     exact⟨_,[0,1],hlt2,by(have h9:=hg1 i2;omega),hz2,sm⟩
   ·obtain rfl:i2=1:=ot
    rw[yg (Nat.le_refl _)]at hz2;subst hz2;dsimp only at hR
    refine AWP.exit ?_;refine yb ?_
    refine rS ?_
    refine AWP.cond rfl (fun hb => ?_) (fun hb => ?_)
    ·replace hR:=ct hR
     iterate 2 refine rS ?_
     refine AWP.ret ?_
     subst hR
     exact es
    ·replace hR:=cf hR
     refine rS ?_
     refine AWP.ret ?_
     subst hR
     exact es
  ·replace hR:=cf hR
   refine rS ?_
   refine AWP.block ?_
   refine AWP.lensS 6 rfl (fun hLn4 => ?_)
   generalize hz4:yd (ygn a0) (a0.Group.length-0) 0 ([]:List Int)=z4 at hR
   refine AWP.range (ygn a0) (fun i4 s4=>⟨[(0,.ep (yf a0)),(3,.ref 0 1 0 s4.length),(6,encL 1 yq a0.Group),(7,.int .i64 (i4:Int))],[.arr 2 1 s4.length (fun j=>yq (s4.getD j default))]⟩) (fun i4 s4=>s4.length≤18 * i4) (a0.Group.length) 0 ([]:List Int) [0] hz4 ot wt sm ?_
   clear hz4
   intro i4 s4 hi4 hW4 hz4
   refine rS ?_
   refine AWP.cond rfl (fun hb => ?_) (fun hb => ?_)
   ·have hlt4:i4<a0.Group.length:=ot
    rw[yh hlt4]at hz4;simp only[ygn]at hz4
    refine rS ?_
    refine AWP.block ?_
    generalize hz5:yd (y1o a0 i4 s4) (((a0.Group.getD i4 default)).toNat-0) 0 s4=z5 at hz4
    refine AWP.range (y1o a0 i4 s4) (fun i5 s5=>⟨[(0,.ep (yf a0)),(3,.ref 0 1 0 s5.length),(6,encL 1 yq a0.Group),(7,.int .i64 (i4:Int)),(8,.int .i64 (i5:Int))],[.arr 2 1 s5.length (fun j=>yq (s5.getD j default))]⟩) (fun i5 s5=>s5.length≤s4.length+2 * i5∧s5.length≤18 * i4+2 * i5) (((a0.Group.getD i4 default)).toNat) 0 s4 [0] hz5 ot wt sm ?_
    clear hz5
    intro i5 s5 hi5 hW5 hz5
    refine rS ?_
    refine AWP.cond rfl (fun hb => ?_) (fun hb => ?_)
    ·have hlt5:i5<((a0.Group.getD i4 default)).toNat:=ot
     rw[yh hlt5]at hz5;simp only[y1o]at hz5
     refine rS ?_
     refine AWP.cond rfl (fun hb => ?_) (fun hb => ?_)
     ·simp only[hb,cond_true]at hz5
      iterate 3 refine rS ?_
      exact⟨_,[4],hlt5,wt,hz5,sm⟩
     ·simp only[hb,cond_false]at hz5
      refine rS ?_
      refine AWP.cond rfl (fun hb => ?_) (fun hb => ?_)
      ·simp only[hb,cond_true]at hz5
       iterate 3 refine rS ?_
       exact⟨_,[4],hlt5,wt,hz5,sm⟩
      ·simp only[hb,cond_false]at hz5
       iterate 2 refine rS ?_
       exact⟨_,[2],hlt5,wt,hz5,sm⟩
    ·obtain rfl:i5=((a0.Group.getD i4 default)).toNat:=ot
     rw[yg (Nat.le_refl _)]at hz5;subst hz5;dsimp only at hz4
     refine AWP.exit ?_;refine yb ?_
     refine rS ?_
     exact⟨_,[0],hlt4,by(have h9:=hg9 i4;omega),hz4,sm⟩
   ·obtain rfl:i4=a0.Group.length:=ot
    rw[yg (Nat.le_refl _)]at hz4;subst hz4;dsimp only at hR
    refine AWP.exit ?_;refine yb ?_
    refine rS ?_
    refine AWP.cond rfl (fun hb => ?_) (fun hb => ?_)
    ·replace hR:=ct hR
     iterate 2 refine rS ?_
     refine AWP.ret ?_
     subst hR
     exact es
    ·replace hR:=cf hR
     refine rS ?_
     refine AWP.ret ?_
     subst hR
     exact es
end N329
def D_zo : DF
 | [x0]=>some (ownL 2 1 yq (zo (rdP yc x0)),false,[wP yf yc x0,bdCharacter (rdP yc x0),(rdP yc x0).Group.length≤4,∀ v∈(rdP yc x0).Group,v≤9,(rdP yc x0).Kind=8→(rdP yc x0).Letter.length=1∧65≤((rdP yc x0).Letter.getD 0 0).toNat∧((rdP yc x0).Letter.getD 0 0).toNat≤90])
 | _=>none
theorem ya3:OkD Tryz.prog 329 D_zo:=by unfold D_zo;exact dk N329.den
end Go.Ab

namespace Go.Ab
open Go Go.Proofs
def zme (a0:Character):Int:=
 (bif (zde a0)then 0 else(bif (a0.Kind == 3)then 20 else IntKind.wrap .i64 ((zdd (zo a0))+(zle a0))))
namespace N276
theorem DD:DOk Tryz.prog (Go.Ab.DD [(275,dP D_zde),(328,dP D_zdd),(329,dP D_zo),(330,dP D_zle)]):=ya yhs.e <| ya y1z.e <| ya ya3.e <| ya ydy.e <| ye _
theorem dn:type_of% (And.intro @D_zde.eq_1 <| And.intro @D_zdd.eq_1 <| And.intro @D_zo.eq_1 <| @D_zle.eq_1):=by and_intros<;>intros<;>rfl
theorem den (a0:Character) (hb0:bdCharacter a0) (hp0:a0.Group.length≤4) (hp1:∀ v∈a0.Group,v≤9) (hp2:a0.Kind=8→a0.Letter.length=1∧65≤(a0.Letter.getD 0 0).toNat∧(a0.Letter.getD 0 0).toNat≤90):Den Tryz.prog 276 [.ep (yf a0)] (.int .i64 (zme a0)):=by
 generalize hR:zme a0=r
 unfold zme at hR
 refine di Tryz.func276 Tryz.ntmps276 Tryz.results276 ?_
 intro c hL hc hk
 obtain⟨hL0,_⟩:=hL
 have hw0:bwCharacter a0:=yn a0 hL0
 clear hL0
 simp only[pars,Nat.zero_add]
 iterate 2 refine rS ?_
 refine AWP.cond rfl (fun hb => ?_) (fun hb => ?_)
 ·replace hR:=ct hR
  refine rS ?_
  refine AWP.ret ?_
  subst hR
  exact es
 ·replace hR:=cf hR
  refine rS ?_
  refine AWP.cond rfl (fun hb => ?_) (fun hb => ?_)
  ·replace hR:=ct hR
   refine rS ?_
   refine AWP.ret ?_
   subst hR
   exact es
  ·replace hR:=cf hR
   refine rS ?_
   refine AWP.ret ?_
   subst hR
   exact es
end N276
def D_zme : DF
 | [x0]=>some (.int .i64 (zme (rdP yc x0)),false,[wP yf yc x0,bdCharacter (rdP yc x0),(rdP yc x0).Group.length≤4,∀ v∈(rdP yc x0).Group,v≤9,(rdP yc x0).Kind=8→(rdP yc x0).Letter.length=1∧65≤((rdP yc x0).Letter.getD 0 0).toNat∧((rdP yc x0).Letter.getD 0 0).toNat≤90])
 | _=>none
theorem yyy:OkD Tryz.prog 276 D_zme:=by unfold D_zme;exact dk N276.den
end Go.Ab

namespace Go.Ab
open Go Go.Proofs
def zlb (a0:Character):Bool:=
 (bif (!(zwd a0))then false else(bif (zde a0)then(a0.Period == 0)else(bif ((a0.Kind == 3) && ((a0.Period.tmod 2) != 0))then false else(zl a0.Period (zme a0) 600))))
namespace N199
theorem DD:DOk Tryz.prog (Go.Ab.DD [(170,dP D_zl),(274,dP D_zwd),(275,dP D_zde),(276,dP D_zme)]):=ya ytf.e <| ya yp0.e <| ya yhs.e <| ya yyy.e <| ye _
theorem dn:type_of% (And.intro @D_zl.eq_1 <| And.intro @D_zwd.eq_1 <| And.intro @D_zde.eq_1 <| @D_zme.eq_1):=by and_intros<;>intros<;>rfl
theorem ol:type_of% (@zl.eq_1):=@zl.eq_1
theorem o0 {p:Prop} (h:p:=by(first|(have q9 := ‹(!zwd a0)=false›;have h9:=yrj a0 (by simpa using q9);first|exact⟨hb0,h9.1,fun v hv=>(h9.2.1 v hv).2,h9.2.2⟩|exact⟨h9.1,fun v hv=>(h9.2.1 v hv).2,h9.2.2⟩|(and_intros<;>first|exact hb0|exact h9.1|exact fun v hv=>(h9.2.1 v hv).2|exact h9.2.2|decide|(intros;decide))));first|done|fail):p:=h
theorem den (a0:Character) (hb0:bdCharacter a0):Den Tryz.prog 199 [.ep (yf a0)] (.bool (zlb a0)):=by
 generalize hR:zlb a0=r
 unfold zlb at hR
 refine di Tryz.func199 Tryz.ntmps199 Tryz.results199 ?_
 intro c hL hc hk
 obtain⟨hL0,_⟩:=hL
 have hw0:bwCharacter a0:=yn a0 hL0
 clear hL0
 simp only[pars,Nat.zero_add]
 iterate 2 refine rS ?_
 refine AWP.cond rfl (fun hb => ?_) (fun hb => ?_)
 ·replace hR:=ct hR
  refine rS ?_
  refine AWP.ret ?_
  subst hR
  exact es
 ·replace hR:=cf hR
  refine rS ?_
  refine AWP.cond rfl (fun hb => ?_) (fun hb => ?_)
  ·replace hR:=ct hR
   refine rS ?_
   refine AWP.ret ?_
   subst hR
   exact es
  ·replace hR:=cf hR
   refine rS ?_
   refine AWP.cond rfl (fun hb => ?_) (fun hb => ?_)
   ·replace hR:=ct hR
    refine rS ?_
    refine AWP.ret ?_
    subst hR
    exact es
   ·replace hR:=cf hR
    refine rD 6 ?_
    refine AWP.ret ?_
    subst hR
    exact es
end N199
def D_zlb : DF
 | [x0]=>some (.bool (zlb (rdP yc x0)),false,[wP yf yc x0,bdCharacter (rdP yc x0)])
 | _=>none
theorem ywr:OkD Tryz.prog 199 D_zlb:=by unfold D_zlb;exact dk N199.den
end Go.Ab

namespace Go.Ab
open Go Go.Proofs
theorem y20 (g:List Int):zwc g=zsc g:=Bool.eq_iff_iff.2 ((y5j g).trans (yze g).symm)
theorem ykm (a:List UInt8):(zkb a != [])=decide (a.length=1∧65≤(a.getD 0 0).toNat∧(a.getD 0 0).toNat≤90):=by
 rw[yji]
 by_cases h:a.length=1∧65≤(a.getD 0 0).toNat∧(a.getD 0 0).toNat≤90
 ·rw[if_pos h,decide_eq_true h]
  have hlt:(a.getD 0 0).toNat-65<yqc.length:=by show _<26;omega
  rw[List.getD_eq_getElem?_getD,List.getElem?_eq_getElem hlt,Option.getD_some]
  have:=(ykg _ (List.getElem_mem hlt)).1
  rw[bne_iff_ne]
  intro h2;rw[h2]at this;simp at this
 ·rw[if_neg h,decide_eq_false h];rfl
theorem ytz (L:List UInt8) (g:List Int) :
  (bif (L == [])then(((g.length:Int) == 0) || (((g.length:Int) == 1) && (zh (g.getD 0 default) 2 9)))else((L == [76]) && (zbc g [6]))) =
  (bif (L == [76])then(((g.length:Int) == 1) && ((g.getD 0 default) == 6))else(((L == []) && decide ((g.length:Int)≤1)) && (zsc g))):=by
 by_cases h1:L=[]
 ·subst h1
  simp only[show(([]:List UInt8) == [])=true from rfl,show(([]:List UInt8) == [76])=false from rfl,cond_true,cond_false,Bool.true_and]
  apply Bool.eq_iff_iff.2
  rw[Bool.and_eq_true,yze,decide_eq_true_eq]
  match g with
  | []=>simp[ypu]
  | [x]=>
   have e:((([x]:List Int).length:Int) == 0)=false:=rfl
   have e2:((([x]:List Int).length:Int) == 1)=true:=rfl
   rw[e,e2]
   simp only[Bool.false_or,Bool.true_and,zh,Bool.and_eq_true,decide_eq_true_eq,List.getD_cons_zero,ypu,List.length_singleton,List.mem_singleton,forall_eq,List.sum_cons,List.sum_nil,ne_eq,List.cons.injEq,and_true]
   omega
  | x::y::t=>
   have e:(((x::y::t).length:Int) == 0)=false:=by rw[beq_eq_false_iff_ne];simp only[List.length_cons];omega
   have e2:(((x::y::t).length:Int) == 1)=false:=by rw[beq_eq_false_iff_ne];simp only[List.length_cons];omega
   rw[e,e2]
   simp only[Bool.false_and,Bool.or_self,Bool.false_eq_true,false_iff,List.length_cons]
   omega
 ·have e1:(L == [])=false:=by simpa using h1
  rw[e1]
  by_cases h2:L=[76]
  ·subst h2
   simp only[BEq.rfl,cond_true,cond_false,Bool.true_and,yxe]
   apply Bool.eq_iff_iff.2
   rw[Bool.and_eq_true,decide_eq_true_eq,beq_iff_eq,beq_iff_eq]
   constructor
   ·intro h;subst h;simp
   ·rintro⟨h3,h4⟩
    obtain⟨x,rfl⟩:=List.length_eq_one_iff.1 (show g.length=1 by omega)
    simp only[List.getD_cons_zero]at h4
    rw[h4]
  ·have e2:(L == [76])=false:=by simpa using h2
   rw[e2];simp
theorem y50 (c:Character) (hl:c.Colors.length<9223372036854775808):zwd c=(znb c.Colors && zbb c):=by
 unfold zwd zbb zlf zl
 rw[y2n _ hl, ← ytz,y20,ykm]
 cases zvb c.Colors with
 | false=>simp
 | true=>
  simp only[Bool.not_true,Bool.or_false,Bool.true_and]
  rcases(show c.Kind=1∨c.Kind=2∨c.Kind=3∨c.Kind=4∨c.Kind=5∨c.Kind=6∨c.Kind=7∨c.Kind=8∨(c.Kind<1∨8<c.Kind)by omega)with h|h|h|h|h|h|h|h|h
  ·rw[h];rfl
  ·rw[h];rfl
  ·rw[h];rfl
  ·rw[h];rfl
  ·rw[h];rfl
  ·rw[h];rfl
  ·rw[h];rfl
  ·rw[h]
   show((((((c.Group.length:Int) == 0) && ((c.Letter.length:Int) == 1)) && decide (65≤((c.Letter.getD 0 0).toNat:Int))) && decide (((c.Letter.getD 0 0).toNat:Int)≤90)))=(decide (c.Letter.length=1∧65≤(c.Letter.getD 0 0).toNat∧(c.Letter.getD 0 0).toNat≤90) && ((c.Group.length:Int) == 0))
   apply Bool.eq_iff_iff.2
   simp only[Bool.and_eq_true,beq_iff_eq,decide_eq_true_eq]
   omega
  ·have e0:(decide (1≤c.Kind) && decide (c.Kind≤8))=false:=by
    rw[Bool.and_eq_false_iff,decide_eq_false_iff_not,decide_eq_false_iff_not];omega
   have e:∀ n:Int,1≤n→n≤8→(c.Kind == n)=false:=fun n h1 h2=>by rw[beq_eq_false_iff_ne];omega
   rw[e0,e 1 (by omega) (by omega),e 2 (by omega) (by omega),e 3 (by omega) (by omega),e 4 (by omega) (by omega),e 5 (by omega) (by omega),e 6 (by omega) (by omega),e 7 (by omega) (by omega),e 8 (by omega) (by omega)]
   rfl
theorem yh4 (l:List Int):zsd l=zdd l:=rfl
theorem y1i (c:Character):zmc c=zde c:=rfl
theorem ybo (c:Character) (h:zbb c=true) (h8:c.Kind≠8):(c.Letter != [])=(c.Letter == [76]):=by
 unfold zbb at h
 simp only[Bool.cond_eq_ite]at h
 have e8:(c.Kind == 8)=false:=by rw[beq_eq_false_iff_ne];exact h8
 repeat' split at h
 all_goals first
  | (rename_i q;rw[e8]at q;cases q;done)
  | (cases h;done)
  | (simp only[Bool.and_eq_true,beq_iff_eq]at h;rw[h.2];rfl)
  | (simp only[Bool.and_eq_true,beq_iff_eq]at h;rw[h.1];rfl)
  | (rename_i q;simp only[beq_iff_eq]at q;rw[q];rfl)
theorem ymw (k:Int) (h:k=2∨k=4∨k=5∨k=6∨k=7∨k=8):(zu k).1=zkd k∧(zu k).2.1=ztb k:=by
 rcases h with h|h|h|h|h|h<;>subst h<;>exact⟨rfl,rfl⟩
theorem yrz (c:Character) (h:zbb c=true) (hk:c.Kind=2∨c.Kind=4∨c.Kind=5∨c.Kind=6∨c.Kind=7∨c.Kind=8):zt c=zo c:=by
 obtain⟨r1,r2⟩:=ymw c.Kind hk
 by_cases h8:c.Kind=8
 ·have hs:(zkb c.Letter != [])=true:=by
   unfold zbb at h
   rw[h8]at h
   have h:(((zkb c.Letter) != []) && ((c.Group.length:Int) == 0))=true:=h
   rw[Bool.and_eq_true]at h
   exact h.1
  rw[ykm,decide_eq_true_eq]at hs
  have e1:=yji c.Letter
  rw[if_pos hs]at e1
  have e2:=ywf ((c.Letter.getD 0 0).toNat:Int)
  rw[y9i _ (by omega) (by omega),show((((c.Letter.getD 0 0).toNat:Int)-65).toNat)=(c.Letter.getD 0 0).toNat-65 by omega]at e2
  have hd:(default:List UInt8)=[]:=rfl
  rw[hd]at e2
  have hall:∀ x∈yqc.getD ((c.Letter.getD 0 0).toNat-65) [],x=45∨x=46:=by
   have hlt:(c.Letter.getD 0 0).toNat-65<yqc.length:=by show _<26;omega
   rw[List.getD_eq_getElem?_getD,List.getElem?_eq_getElem hlt,Option.getD_some]
   exact(ykg _ (List.getElem_mem hlt)).2.2
  generalize yqc.getD ((c.Letter.getD 0 0).toNat-65) []=code at *
  have hb:yd (y6t c) code.length 0 []=yd (y4m c) code.length 0 []:=ymu _ _ _ (fun j u _ hj=>by
   unfold y6t y4m
   rw[e1,e2,r1,r2,h8]
   have hg:(code.map (fun c=>if c=46 then(5:Int)else 15)).getD j default=if code.getD j 0=46 then 5 else 15:=by
    rw[List.getD_eq_getElem?_getD,List.getD_eq_getElem?_getD,List.getElem?_map,List.getElem?_eq_getElem (by omega)]
    rfl
   rw[hg]
   have hm:=hall (code.getD j 0) (by rw[List.getD_eq_getElem?_getD,List.getElem?_eq_getElem (by omega),Option.getD_some];exact List.getElem_mem _)
   generalize code.getD j 0=x at hm
   rcases hm with hm|hm<;>subst hm<;>rfl)
  unfold zt zo
  rw[h8,e1,e2]
  simp only[List.length_map,Nat.sub_zero]
  rw[hb]
  rfl
 ·have e8:(c.Kind == 8)=false:=by rw[beq_eq_false_iff_ne];exact h8
  unfold zt zo
  rw[e8,ybo c h h8,r2]
  have b3:yut c=ywo c:=by
   funext i s j t
   unfold yut ywo
   rw[r1,r2]
  have b5:you c=y1o c:=by
   funext i s j t
   unfold you y1o
   rw[r1,r2]
  have b2:ywu c=ylp c:=by
   funext i s
   unfold ywu ylp
   rw[b3]
   all_goals rfl
  have b4:y8t c=ygn c:=by
   funext i s
   unfold y8t ygn
   rw[b5]
   all_goals rfl
  rw[b2,b4]
  rfl
theorem y7r (c:Character) (h:zbb c=true) (hs:zmc c=false):zff c=zme c:=by
 unfold zff zme
 rw[hs, ← y1i,hs]
 simp only[cond_false]
 by_cases h3:c.Kind=3
 ·rw[h3];rfl
 ·have e3:(c.Kind == 3)=false:=by rw[beq_eq_false_iff_ne];exact h3
  rw[e3]
  simp only[cond_false]
  have hk:c.Kind=2∨c.Kind=4∨c.Kind=5∨c.Kind=6∨c.Kind=7∨c.Kind=8:=by
   unfold zbb at h
   unfold zmc at hs
   simp only[Bool.cond_eq_ite]at h
   simp only[Bool.or_eq_false_iff,beq_eq_false_iff_ne]at hs
   repeat' split at h
   all_goals (try simp only[beq_iff_eq]at *)
   all_goals first|omega|(cases h;done)
  rw[yrz c h hk,yh4]
  have hg:=(y9c c h).1
  have hone:c.Kind=6∨c.Kind=7∨c.Kind=8→c.Group.length≤1:=by
   intro hq
   unfold zbb at h
   simp only[Bool.cond_eq_ite]at h
   repeat' split at h
   all_goals (try simp only[Bool.and_eq_true,Bool.or_eq_true,beq_iff_eq,yxe,decide_eq_true_eq]at *)
   all_goals first|omega|(rcases h with h|h<;>omega)|(rw[h.2];simp)
  have e1:∀ n:Int,IntKind.wrap .i64 n=n∨True:=fun _=>.inr trivial
  unfold zle
  rcases hk with hk|hk|hk|hk|hk|hk
  ·rw[hk]
   cases decide (1<(c.Group.length:Int))<;>rfl
  ·rw[hk]
   cases decide (1<(c.Group.length:Int))<;>rfl
  ·rw[hk]
   cases decide (1<(c.Group.length:Int))<;>rfl
  ·have:=hone (by omega)
   rw[hk,decide_eq_false (show ¬ 1<(c.Group.length:Int)by omega)];rfl
  ·have:=hone (by omega)
   rw[hk,decide_eq_false (show ¬ 1<(c.Group.length:Int)by omega)];rfl
  ·have:=hone (by omega)
   rw[hk,decide_eq_false (show ¬ 1<(c.Group.length:Int)by omega)];rfl
theorem y6e (c:Character) (hl:c.Colors.length<9223372036854775808):zw c=zlb c:=by
 unfold zw zlb
 rw[y50 c hl, ← y1i]
 cases h1:znb c.Colors with
 | false=>rfl
 | true=>
  cases h2:zbb c with
  | false=>rfl
  | true=>
   cases h3:zmc c with
   | true=>rfl
   | false=>
    rw[y7r c h2 h3]
    simp only[Bool.not_true,Bool.or_self,Bool.and_self,cond_false,zh,zl]
    cases h4:(c.Kind == 3)with
    | false=>
     have:(c.Kind != 3)=true:=by rw[bne,h4];rfl
     rw[this];simp
    | true=>
     have:(c.Kind != 3)=false:=by rw[bne,h4];rfl
     rw[this]
     simp only[Bool.false_or,Bool.true_and]
     cases h5:(c.Period.tmod 2 == 0)with
     | true=>
      have:(c.Period.tmod 2 != 0)=false:=by rw[bne,h5];rfl
      rw[this];simp
     | false=>
      have:(c.Period.tmod 2 != 0)=true:=by rw[bne,h5];rfl
      rw[this];simp
end Go.Ab

namespace Go.Ab
open Go Go.Proofs
theorem yg4 (s:List UInt8) (c:UInt8) : -1≤Go.Lib.indexByte s c∧(0≤Go.Lib.indexByte s c↔c∈s):=by
 induction s with
 | nil=>simp[Go.Lib.indexByte]
 | cons b l ih=>
  obtain⟨i1,i2⟩:=ih
  by_cases hb:b=c
  ·subst hb;simp[Go.Lib.indexByte]
  ·have hb2:¬ c=b:=fun h=>hb h.symm
   have e1:(b == c)=false:=by simpa using hb
   by_cases hm:c∈l
   ·have h0:=i2.2 hm
    have e2:(Go.Lib.indexByte l c == -1)=false:=by rw[beq_eq_false_iff_ne];omega
    have e3:Go.Lib.indexByte (b::l) c=Go.Lib.indexByte l c+1:=by simp only[Go.Lib.indexByte,e1,e2,Bool.false_eq_true,if_false]
    rw[e3]
    exact⟨by omega,fun _=>List.mem_cons_of_mem _ hm,fun _=>by omega⟩
   ·have h0:¬ 0≤Go.Lib.indexByte l c:=fun h=>hm (i2.1 h)
    have e0:Go.Lib.indexByte l c = -1:=by omega
    have e3:Go.Lib.indexByte (b::l) c = -1:=by simp only[Go.Lib.indexByte,e1,e0,Bool.false_eq_true,if_false];rfl
    rw[e3]
    refine⟨by omega,fun h=>by omega,fun h => ?_⟩
    rcases List.mem_cons.1 h with h|h
    ·exact absurd h hb2
    ·exact absurd h hm
theorem yxq (s:List UInt8) (c:UInt8):zmb s [c]=decide (c∈s):=by
 unfold zmb
 rw[List.getD_cons_zero]
 exact decide_eq_decide.2 (yg4 s c).2
theorem y5z (s:List UInt8) (c:UInt8):zmb (s++[c]) [c]=true:=by
 rw[yxq];simp
theorem y14 (s:List UInt8) (b c:UInt8) (h:b≠c):zmb (s++[b]) [c]=zmb s [c]:=by
 rw[yxq,yxq]
 have:¬ c=b:=fun e=>h e.symm
 simp[this]
theorem ylr (c:UInt8) (g:Sector→List UInt8→Except (List UInt8) (List UInt8)) (hg:∀ x u,g x u=bif ((x.Color == [c]) && (!(zmb u [c])))then .ok (u++[c])else .ok u) :
  ∀ (l:List Sector) (u:List UInt8),zmb u [c]=true→yck g l u=.ok u
 | [],u,_=>rfl
 | x::l,u,h=>by
  rw[yef,hg,h,Bool.not_true,Bool.and_false]
  exact ylr c g hg l u h
theorem y9v (c:UInt8) (g:Sector→List UInt8→Except (List UInt8) (List UInt8)) (hg:∀ x u,g x u=bif ((x.Color == [c]) && (!(zmb u [c])))then .ok (u++[c])else .ok u) :
  ∀ (l:List Sector) (u:List UInt8),zmb u [c]=false→yck g l u=.ok (bif l.any (fun x=>x.Color == [c])then u++[c]else u)
 | [],u,_=>rfl
 | x::l,u,h=>by
  rw[yef,hg,h,Bool.not_false,Bool.and_true,List.any_cons]
  cases hx:(x.Color == [c])with
  | true=>
   simp only[cond_true,Bool.true_or]
   exact ylr c g hg l _ (y5z u c)
  | false=>
   simp only[cond_false,Bool.false_or]
   exact y9v c g hg l u h
theorem y7u (c:List UInt8) (g:Sector→List UInt8→Except (Sum (List UInt8) (List UInt8)) (List UInt8)) (hg:∀ x u,g x u=bif (x.Color == c)then .error (.inr (u++c))else .ok u) :
  ∀ (l:List Sector) (u:List UInt8),yck g l u=bif l.any (fun x=>x.Color == c)then .error (.inr (u++c))else .ok u
 | [],u=>rfl
 | x::l,u=>by
  rw[yef,hg,List.any_cons]
  cases hx:(x.Color == c)with
  | true=>rfl
  | false=>
   simp only[cond_false,Bool.false_or]
   exact y7u c g hg l u
def yvj (a:List Sector) (s:List UInt8) (c:UInt8):List UInt8:=bif a.any (fun x=>x.Color == [c])then s++[c]else s
theorem y2e (a:List Sector) (i:Nat) (s:List UInt8) (c:UInt8) (h4:i<4) (hc:(([87,82,71,89].take ((IntKind.wrap .i64 ((i:Int)+1)).toNat)).drop i)=[c]) (h:zmb s [c]=false) :
  y2k a i s=.ok (yvj a s c):=by
 unfold y2k
 rw[yuc (fun x u=>bif ((x.Color == [c]) && (!(zmb u [c])))then .ok (u++[c])else .ok u) a s (fun j u _=>by simp only[y6n,hc])]
 rw[y9v c _ (fun _ _=>rfl) a s h]
 rfl
theorem y4e (a:List Sector) (i:Nat) (s:List UInt8) (c:UInt8) (hc:([[87],[82],[71],[89]]:List (List UInt8)).getD i default=[c]):yuk a i s=.ok (yvj a s c):=by
 unfold yuk
 rw[yuc (fun x u=>bif (x.Color == [c])then .error (.inr (u++[c]))else .ok u) a s (fun j u _=>by simp only[y6o,hc])]
 rw[y7u [c] _ (fun _ _=>rfl) a s]
 unfold yvj
 cases a.any (fun x=>x.Color == [c])<;>rfl
theorem yhc (a:List Sector) (s:List UInt8) (b c:UInt8) (h:b≠c):zmb (yvj a s b) [c]=zmb s [c]:=by
 unfold yvj
 cases a.any (fun x=>x.Color == [b])with
 | true=>exact y14 s b c h
 | false=>rfl
theorem y2h (a:List Sector):zcc a=zec a:=by
 unfold zcc zec
 have n0:∀ c:UInt8,zmb [] [c]=false:=by intro c;simp[zmb,Go.Lib.indexByte]
 have l4:([87,82,71,89]:List Nat).length-0=4:=rfl
 rw[l4]
 simp only[yd,Nat.sub_zero]
 rw[y2e a 0 [] 87 (by omega) rfl (n0 _),y4e a 0 [] 87 rfl]
 simp only
 rw[y2e a (0+1) _ 82 (by omega) rfl (by rw[yhc _ _ _ _ (by decide)];exact n0 _),y4e a (0+1) _ 82 rfl]
 simp only
 rw[y2e a (0+1+1) _ 71 (by omega) rfl (by rw[yhc _ _ _ _ (by decide),yhc _ _ _ _ (by decide)];exact n0 _),y4e a (0+1+1) _ 71 rfl]
 simp only
 rw[y2e a (0+1+1+1) _ 89 (by omega) rfl (by rw[yhc _ _ _ _ (by decide),yhc _ _ _ _ (by decide),yhc _ _ _ _ (by decide)];exact n0 _),y4e a (0+1+1+1) _ 89 rfl]
end Go.Ab

namespace Go.Ab
open Go Go.Proofs
def zqd (a0:Aid):Bool:=
 (bif (((!(zw a0.Light)) || (!(zbf a0.Intensity))) || (!(zx a0.Sectors)))then false else(bif ((a0.Sectors.length:Int) == 0)then((a0.Light.Colors.length:Int) == 1)else((zcc a0.Sectors) == a0.Light.Colors)))
namespace N105
theorem DD:DOk Tryz.prog (Go.Ab.DD [(214,dP D_zbf),(215,dP D_zx),(216,dP D_zcc),(91,dP D_zw)]):=ya ynx.e <| ya ytq.e <| ya yyx.e <| ya yxp.e <| ye _
theorem dn:type_of% (And.intro @D_zbf.eq_1 <| And.intro @D_zx.eq_1 <| And.intro @D_zcc.eq_1 <| @D_zw.eq_1):=by and_intros<;>intros<;>rfl
theorem den (a0:Aid) (hb0:bdAid a0):Den Tryz.prog 105 [.agg (eAid a0)] (.bool (zqd a0)):=by
 generalize hR:zqd a0=r
 unfold zqd at hR
 refine di Tryz.func105 Tryz.ntmps105 Tryz.results105 ?_
 intro c hL hc hk
 obtain⟨hL0,_⟩:=hL
 have hw0:bwAid a0:=y7c a0 hL0
 clear hL0
 simp only[pars,Nat.zero_add]
 iterate 2 refine rS ?_
 refine AWP.cond rfl (fun hb => ?_) (fun hb => ?_)
 ·replace hR:=ct hR
  refine rS ?_
  refine AWP.ret ?_
  subst hR
  exact es
 ·replace hR:=cf hR
  refine rS ?_
  refine AWP.cond rfl (fun hb => ?_) (fun hb => ?_)
  ·replace hR:=ct hR
   refine rS ?_
   refine AWP.ret ?_
   subst hR
   exact es
  ·replace hR:=cf hR
   refine rD 6 ?_
   refine AWP.ret ?_
   subst hR
   exact es
end N105
def D_zqd : DF
 | [x0]=>some (.bool (zqd (rdG dAid x0)),false,[wG eAid dAid x0,bdAid (rdG dAid x0)])
 | _=>none
theorem yur:OkD Tryz.prog 105 D_zqd:=by unfold D_zqd;exact dk N105.den
end Go.Ab

namespace Go.Ab
open Go Go.Proofs
def zxe (a0:Aid):Bool:=
 ((((((zif a0.Number) && (zod a0.Name)) && (zrc a0.At)) && (zjf a0.Height)) && (zhc a0.Mark)) && ((zqd a0) || (zcf a0)))
namespace N104
theorem DD:DOk Tryz.prog (Go.Ab.DD [(105,dP D_zqd),(17,dP D_zhc),(209,dP D_zif),(210,dP D_zod),(211,dP D_zrc),(212,dP D_zjf),(213,dP D_zcf)]):=ya yur.e <| ya y7l.e <| ya yry.e <| ya yoy.e <| ya y2l.e <| ya yu0.e <| ya y0y.e <| ye _
theorem dn:type_of% (And.intro @D_zqd.eq_1 <| And.intro @D_zhc.eq_1 <| And.intro @D_zif.eq_1 <| And.intro @D_zod.eq_1 <| And.intro @D_zrc.eq_1 <| And.intro @D_zjf.eq_1 <| @D_zcf.eq_1):=by and_intros<;>intros<;>rfl
theorem den (a0:Aid) (hb0:bdAid a0):Den Tryz.prog 104 [.agg (eAid a0)] (.bool (zxe a0)):=by
 generalize hR:zxe a0=r
 unfold zxe at hR
 refine di Tryz.func104 Tryz.ntmps104 Tryz.results104 ?_
 intro c hL hc hk
 obtain⟨hL0,_⟩:=hL
 have hw0:bwAid a0:=y7c a0 hL0
 clear hL0
 simp only[pars,Nat.zero_add]
 iterate 2 refine rS ?_
 refine AWP.ret ?_
 subst hR
 exact es
end N104
def D_zxe : DF
 | [x0]=>some (.bool (zxe (rdG dAid x0)),false,[wG eAid dAid x0,bdAid (rdG dAid x0)])
 | _=>none
theorem ylx:OkD Tryz.prog 104 D_zxe:=by unfold D_zxe;exact dk N104.den
end Go.Ab


namespace Go.Ab
open Go Go.Proofs
def zxb (a0:Aid):Bool:=
 (bif (((((!(zl a0.Number 1 9999)) || (!(zdc a0.Name))) || (!(zwb a0.At))) || (!(zl a0.Height 0 3000))) || (!(zoc a0.Mark)))then false else(bif (zyc a0.Light)then(((a0.Sectors.length:Int) == 0) && (a0.Intensity == 0))else(bif (((!(zlb a0.Light)) || (!(zl a0.Intensity 1 100000000))) || (!(zq a0.Sectors)))then false else(bif ((a0.Sectors.length:Int) == 0)then((a0.Light.Colors.length:Int) == 1)else((zec a0.Sectors) == a0.Light.Colors)))))
namespace N98
theorem DD:DOk Tryz.prog (Go.Ab.DD [(170,dP D_zl),(195,dP D_zdc),(196,dP D_zwb),(197,dP D_zoc),(198,dP D_zyc),(199,dP D_zlb),(200,dP D_zq),(201,dP D_zec)]):=ya ytf.e <| ya yvy.e <| ya yks.e <| ya y8x.e <| ya yjz.e <| ya ywr.e <| ya ytw.e <| ya y2y.e <| ye _
theorem dn:type_of% (And.intro @D_zl.eq_1 <| And.intro @D_zdc.eq_1 <| And.intro @D_zwb.eq_1 <| And.intro @D_zoc.eq_1 <| And.intro @D_zyc.eq_1 <| And.intro @D_zlb.eq_1 <| And.intro @D_zq.eq_1 <| @D_zec.eq_1):=by and_intros<;>intros<;>rfl
theorem ol:type_of% (@zl.eq_1):=@zl.eq_1
theorem den (a0:Aid) (hb0:bdAid a0):Den Tryz.prog 98 [.ep (eAid a0)] (.bool (zxb a0)):=by
 generalize hR:zxb a0=r
 unfold zxb at hR
 refine di Tryz.func98 Tryz.ntmps98 Tryz.results98 ?_
 intro c hL hc hk
 obtain⟨hL0,_⟩:=hL
 have hw0:bwAid a0:=y7c a0 hL0
 clear hL0
 simp only[pars,Nat.zero_add]
 iterate 2 refine rS ?_
 refine AWP.cond rfl (fun hb => ?_) (fun hb => ?_)
 ·replace hR:=ct hR
  refine rS ?_
  refine AWP.ret ?_
  subst hR
  exact es
 ·replace hR:=cf hR
  refine rS ?_
  refine AWP.cond rfl (fun hb => ?_) (fun hb => ?_)
  ·replace hR:=ct hR
   refine rS ?_
   refine AWP.ret ?_
   subst hR
   exact es
  ·replace hR:=cf hR
   refine rS ?_
   refine AWP.cond rfl (fun hb => ?_) (fun hb => ?_)
   ·replace hR:=ct hR
    refine rS ?_
    refine AWP.ret ?_
    subst hR
    exact es
   ·replace hR:=cf hR
    refine rS ?_
    refine AWP.cond rfl (fun hb => ?_) (fun hb => ?_)
    ·replace hR:=ct hR
     refine rS ?_
     refine AWP.ret ?_
     subst hR
     exact es
    ·replace hR:=cf hR
     refine rD 11 ?_
     refine AWP.ret ?_
     subst hR
     exact es
end N98
def D_zxb : DF
 | [x0]=>some (.bool (zxb (rdP dAid x0)),false,[wP eAid dAid x0,bdAid (rdP dAid x0)])
 | _=>none
theorem ypz:OkD Tryz.prog 98 D_zxb:=by unfold D_zxb;exact dk N98.den
end Go.Ab


namespace Go.Ab
open Go Go.Proofs
theorem ymo (c:Character) (h:zyc c=true):zw c=false:=by
 unfold zyc at h
 simp only[Bool.and_eq_true,beq_iff_eq]at h
 obtain⟨⟨⟨⟨h1,h2⟩,h3⟩,h4⟩,h5⟩:=h
 cases c
 simp only at h1 h2 h3 h4 h5
 rename_i k g l cs p
 have hg:g=[]:=List.length_eq_zero_iff.1 (by omega)
 subst h1 hg h3 h4 h5
 decide
theorem ydz (a:Aid):zcf a=((zyc a.Light && ((a.Sectors.length:Int) == 0)) && (a.Intensity == 0)):=by
 unfold zcf zkf zyc
 rw[yhk]
 have:decide (a.Light.Group=[])=((a.Light.Group.length:Int) == 0):=by
  cases a.Light.Group with
  | nil=>rfl
  | cons x l=>simp;omega
 rw[this]
theorem yof (a:Aid) (hl:a.Light.Colors.length<9223372036854775808) (hs:a.Sectors.length<9223372036854775807):zxe a=zxb a:=by
 unfold zxe zxb
 rw[ydz]
 unfold zqd
 rw[yhb a.Sectors hs,y2h,yfd,yv2]
 have e1:zif a.Number=zl a.Number 1 9999:=rfl
 have e2:zrc a.At=zwb a.At:=rfl
 have e3:zjf a.Height=zl a.Height 0 3000:=rfl
 have e4:zbf a.Intensity=zl a.Intensity 1 100000000:=rfl
 rw[e1,e2,e3,e4]
 cases hp:zyc a.Light with
 | true=>
  rw[ymo _ hp]
  simp only[Bool.not_false,Bool.true_or,cond_true,Bool.true_and,Bool.false_or]
  cases zl a.Number 1 9999<;>cases zdc a.Name<;>cases zwb a.At<;>cases zl a.Height 0 3000<;>cases zoc a.Mark<;>rfl
 | false=>
  rw[y6e a.Light hl]
  simp only[Bool.false_and,Bool.or_false,cond_false]
  cases zl a.Number 1 9999<;>cases zdc a.Name<;>cases zwb a.At<;>cases zl a.Height 0 3000<;>cases zoc a.Mark<;>rfl
end Go.Ab

namespace Go.Ab
open Go Go.Proofs
def InR (s:List Int):Prop:=∀ v∈s,0≤v∧v≤100
theorem InR.app {s t:List Int} (h1:InR s) (h2:InR t):InR (s++t):=fun v hv=>(List.mem_append.1 hv).elim (h1 v) (h2 v)
theorem InR.one {x:Int} (h1:0≤x) (h2:x≤100):InR [x]:=fun v hv=>by rw[List.mem_singleton]at hv;subst hv;exact⟨h1,h2⟩
theorem InR.nil:InR []:=fun v hv=>by simp at hv
theorem yfw (k:Int):0≤zkd k∧zkd k≤100:=by
 unfold zkd
 simp only[Bool.cond_eq_ite]
 repeat' split
 all_goals omega
theorem yvq (k:Int):0≤ztb k∧ztb k≤20:=by
 unfold ztb
 simp only[Bool.cond_eq_ite]
 repeat' split
 all_goals omega
theorem yh0 (k:Int):0≤IntKind.wrap .i64 (ztb k+20)∧IntKind.wrap .i64 (ztb k+20)≤100:=by
 have:=yvq k
 rw[IntKind.wrap_i64];omega
theorem y2u (c:Character) (h1:c.Group.length≤4) (h2:∀ v∈c.Group,1≤v∧v≤9):InR (zo c)∧(zo c).length≤80:=by
 have hf:=yfw c.Kind
 have hg:=yvq c.Kind
 have hw:=yh0 c.Kind
 unfold zo
 cases hk:(c.Kind == 8)with
 | true=>
  simp only[cond_true]
  have hm:(zjb ((c.Letter.getD 0 0).toNat:Int)).length≤4:=y4o _
  have hmr:∀ j,0≤(zjb ((c.Letter.getD 0 0).toNat:Int)).getD j default∧(zjb ((c.Letter.getD 0 0).toNat:Int)).getD j default≤100:=by
   intro j
   rw[ywf,List.getD_eq_getElem?_getD,List.getElem?_map]
   cases(yqc.getD (IntKind.wrap .u8 (((c.Letter.getD 0 0).toNat:Int)-65)).toNat default)[j]? with
   | none=>show(0:Int)≤0∧(0:Int)≤100;omega
   | some x=>simp only[Option.map_some,Option.getD_some];split<;>omega
  obtain⟨t,q1,q2,q3⟩:=y5 (b:=y4m c) (fun i s=>InR s∧s.length≤2 * i) (k:=(zjb ((c.Letter.getD 0 0).toNat:Int)).length-0) (i:=0) (s:=[]) ⟨InR.nil,by simp⟩ (fun j u _ _ h=>by
   unfold y4m
   cases decide (0<(j:Int))with
   | true=>exact⟨_,rfl,(h.1.app (InR.one (by omega) (by omega))).app (InR.one (hmr j).1 (hmr j).2),by simp only[List.length_append,List.length_singleton];omega⟩
   | false=>exact⟨_,rfl,h.1.app (InR.one (hmr j).1 (hmr j).2),by simp only[List.length_append,List.length_singleton];omega⟩)
  rw[q1]
  exact⟨q2,by simp only;omega⟩
 | false=>
  simp only[cond_false]
  have hend:∀ s:List Int,InR s→s.length≤72→InR (bif (c.Letter == [76])then s++[ztb c.Kind,20]else s)∧(bif (c.Letter == [76])then s++[ztb c.Kind,20]else s).length≤80:=by
   intro s h3 h4
   cases(c.Letter == [76])with
   | true=>exact⟨h3.app (fun v hv=>by simp only[List.mem_cons,List.not_mem_nil,or_false]at hv;rcases hv with h|h<;>subst h<;>omega),by simp only[cond_true,List.length_append,List.length_cons,List.length_nil];omega⟩
   | false=>exact⟨h3,by simp only[cond_false];omega⟩
  cases hz:((c.Group.length:Int) == 0)with
  | true=>
   simp only[cond_true]
   obtain⟨t,q1,q2,q3⟩:=y5 (b:=ylp c) (fun i s=>InR s∧s.length≤18 * i) (k:=1-0) (i:=0) (s:=[]) ⟨InR.nil,by simp⟩ (fun j u _ hj h=>by
    unfold ylp
    have hj0:j=0:=by omega
    obtain⟨t,q1,q2,q3⟩:=y5 (b:=ywo c j u) (fun i s=>InR s∧s.length≤18 * j+2 * i) (k:=(([1]:List Int).getD j default).toNat-0) (i:=0) (s:=u) ⟨h.1,by omega⟩ (fun i w _ hi h=>by
     unfold ywo
     cases decide (0<(i:Int))with
     | true=>exact⟨_,rfl,(h.1.app (InR.one hg.1 (by omega))).app (InR.one hf.1 hf.2),by simp only[List.length_append,List.length_singleton];omega⟩
     | false=>
      cases decide (0<(j:Int))with
      | true=>exact⟨_,rfl,(h.1.app (InR.one hw.1 hw.2)).app (InR.one hf.1 hf.2),by simp only[List.length_append,List.length_singleton];omega⟩
      | false=>exact⟨_,rfl,h.1.app (InR.one hf.1 hf.2),by simp only[List.length_append,List.length_singleton];omega⟩)
    rw[q1]
    subst hj0
    exact⟨t,rfl,q2,by simp only[List.getD_cons_zero]at q3;omega⟩)
   rw[q1]
   exact hend t q2 (by omega)
  | false=>
   simp only[cond_false]
   obtain⟨t,q1,q2,q3⟩:=y5 (b:=ygn c) (fun i s=>InR s∧s.length≤18 * i) (k:=c.Group.length-0) (i:=0) (s:=[]) ⟨InR.nil,by simp⟩ (fun j u _ hj h=>by
    unfold ygn
    have hgj:=y9e h2 j
    obtain⟨t,q1,q2,q3⟩:=y5 (b:=y1o c j u) (fun i s=>InR s∧s.length≤18 * j+2 * i) (k:=(c.Group.getD j default).toNat-0) (i:=0) (s:=u) ⟨h.1,by omega⟩ (fun i w _ hi h=>by
     unfold y1o
     cases decide (0<(i:Int))with
     | true=>exact⟨_,rfl,(h.1.app (InR.one hg.1 (by omega))).app (InR.one hf.1 hf.2),by simp only[List.length_append,List.length_singleton];omega⟩
     | false=>
      cases decide (0<(j:Int))with
      | true=>exact⟨_,rfl,(h.1.app (InR.one hw.1 hw.2)).app (InR.one hf.1 hf.2),by simp only[List.length_append,List.length_singleton];omega⟩
      | false=>exact⟨_,rfl,h.1.app (InR.one hf.1 hf.2),by simp only[List.length_append,List.length_singleton];omega⟩)
    rw[q1]
    exact⟨t,rfl,q2,by omega⟩)
   rw[q1]
   exact hend t q2 (by omega)
theorem y6z (l:List Int) (h:InR l) (hl:l.length≤80):0≤zdd l∧zdd l≤8000:=by
 unfold zdd
 obtain⟨t,q1,q2,q3⟩:=y5 (b:=y8n l) (fun i s=>0≤s∧s≤100 * i) (k:=l.length-0) (i:=0) (s:=0) ⟨by omega,by omega⟩ (fun j u _ hj hI=>by
  have hx:0≤l.getD j default∧l.getD j default≤100:=by
   rw[List.getD_eq_getElem?_getD,List.getElem?_eq_getElem (by omega),Option.getD_some]
   exact h _ (List.getElem_mem _)
  refine⟨_,rfl,?_⟩
  rw[IntKind.wrap_i64];omega)
 rw[q1]
 exact⟨q2,by simp only;omega⟩
theorem y8v (c:Character) (h:zbb c=true) (hs:zmc c=false):0<zme c:=by
 obtain⟨g1,g2⟩:=y9c c h
 obtain⟨t1,t2⟩:=y2u c g1 g2
 have t3:=y6z _ t1 t2
 have hg:=yvq c.Kind
 unfold zme
 rw[← y1i,hs]
 simp only[cond_false]
 cases(c.Kind == 3)with
 | true=>simp
 | false=>
  simp only[cond_false]
  have hr:0<zle c∧zle c≤100:=by
   unfold zle
   simp only[Bool.cond_eq_ite]
   repeat' split
   all_goals (try rw[IntKind.wrap_i64]);(try rw[IntKind.wrap_i64]);omega
  rw[IntKind.wrap_i64];omega
end Go.Ab

namespace Go.Ab
open Go Go.Proofs
theorem yit (k:Int):(zub k).length≤3:=by
 unfold zub zhb
 simp only[Bool.cond_eq_ite]
 split
 ·simp
 ·rw[List.getD_eq_getElem?_getD]
  have h:∀ x∈([[],[70],[79,99],[73,115,111],[70,108],[76,70,108],[81],[86,81],[77,111]]:List (List UInt8)),x.length≤3:=by decide
  cases hg:([[],[70],[79,99],[73,115,111],[70,108],[76,70,108],[81],[86,81],[77,111]]:List (List UInt8))[k.toNat]? with
  | none=>show(0:Nat)≤3;omega
  | some x=>exact h x (List.mem_of_getElem? hg)
end Go.Ab

namespace Go.Ab
open Go Go.Proofs
theorem yzj (xs:List (List UInt8)) (h:∀ v∈xs,v.length≤20):(zob xs [43]).length≤21 * xs.length∧(Go.Lib.join xs [43]).length≤21 * xs.length:=by
 have h1:=ybg [43] xs 20 h
 simp only[List.length_singleton]at h1
 exact⟨by show(Go.Lib.join xs [43]).length≤_;omega,by omega⟩
end Go.Ab

namespace Go.Ab
open Go Go.Proofs
def y6k (a0:Character) (i1:Nat) (s1:List (List UInt8)):Except ((List UInt8)) (List (List UInt8)):=
 .ok (s1++[(zn (a0.Group.getD i1 default))])
def zuc (a0:Character):(List UInt8):=
 (bif (a0.Kind == 8)then(((zub a0.Kind)++[40])++a0.Letter)++[41]else(bif decide (0<(a0.Group.length:Int))then(match yd (y6k a0) (a0.Group.length-0) 0 ([]:List (List UInt8))with|.error e=>e|.ok s1=>(bif (a0.Letter != [])then((zub a0.Kind)++(([40]++(zob s1 [43]))++[41]))++[43,76,70,108]else(zub a0.Kind)++(([40]++(zob s1 [43]))++[41])))else(bif (a0.Letter != [])then(zub a0.Kind)++[43,76,70,108]else(zub a0.Kind))))
namespace N217
theorem DD:DOk Tryz.prog (Go.Ab.DD [(107,dP D_zn),(263,dP D_zub),(83,dP D_zob)]):=ya yjj.e <| ya y7s.e <| ya yri.e <| ye _
theorem dn:type_of% (And.intro @D_zn.eq_1 <| And.intro @D_zub.eq_1 <| @D_zob.eq_1):=by and_intros<;>intros<;>rfl
theorem gr {p:Prop} (h:p:=by(grind [yqe]);first|done|fail):p:=h
theorem o0 {p:Prop} (h:p:=by(first|(have h9:=yzj s1 (by first|exact hW1|exact hW1.2);first|omega|(simp only[ob,ln,List.length_singleton,List.length_append,List.length_cons,List.length_nil]at *;omega)|(and_intros<;>first|omega|(simp only[ob,ln,List.length_singleton,List.length_append,List.length_cons,List.length_nil]at *;omega)))|(have h9:=hg9 i1;and_intros<;>omega)|(simp only[ob,ln,List.length_singleton,List.length_append,List.length_cons,List.length_nil]at *;omega));first|done|fail):p:=h
theorem o1 {p:Prop} (h:p:=by(first|(have h9:=yzj s1 hW1.2;have h8:=hW1.1;simp only[ob,ln,List.length_singleton,List.length_append,List.length_cons,List.length_nil]at *;omega)|(have h9:=hg9 i1;omega));first|done|fail):p:=h
set_option maxHeartbeats 1000000 in
set_option maxRecDepth 20000 in
theorem den (a0:Character) (hb0:bdCharacter a0) (hp0:a0.Group.length≤4) (hp1:∀ v∈a0.Group,1≤v∧v≤9):Den Tryz.prog 217 [.agg (yf a0)] (.str (zuc a0)):=by
 generalize hR:zuc a0=r
 unfold zuc at hR
 refine di Tryz.func217 Tryz.ntmps217 Tryz.results217 ?_
 intro c hL hc hk
 obtain⟨hL0,_⟩:=hL
 have hw0:bwCharacter a0:=yn a0 hL0
 clear hL0
 simp only[pars,Nat.zero_add]
 have hg9:∀ i:Nat,0≤a0.Group.getD i default∧a0.Group.getD i default≤9:=fun i=>y9e hp1 i
 have hk9:=yit a0.Kind
 iterate 3 refine rS ?_
 refine AWP.cond rfl (fun hb => ?_) (fun hb => ?_)
 ·replace hR:=ct hR
  refine rS ?_
  refine AWP.ret ?_
  subst hR
  exact es
 ·replace hR:=cf hR
  refine rS ?_
  refine AWP.cond rfl (fun hb => ?_) (fun hb => ?_)
  ·replace hR:=ct hR
   iterate 2 refine rS ?_
   refine AWP.block ?_
   refine AWP.lensS 20 rfl (fun hLn1 => ?_)
   generalize hz1:yd (y6k a0) (a0.Group.length-0) 0 ([]:List (List UInt8))=z1 at hR
   refine AWP.range (y6k a0) (fun i1 s1=>⟨[(1,.ptr 0 0),(3,.str (zub a0.Kind)),(4,.ref 1 1 0 s1.length),(25,encL 1 yq a0.Group),(26,.int .i64 (a0.Group.length:Int)),(27,.int .i64 (i1:Int))],[.box [.int .i64 a0.Kind,encL 1 yq a0.Group,.str a0.Letter,.str a0.Colors,.int .i64 a0.Period],.arr 9 1 s1.length (fun j=>eS (s1.getD j default))]⟩) (fun i1 s1=>s1.length≤([]:List (List UInt8)).length+1 * i1∧∀ v∈s1,v.length≤20) (a0.Group.length) 0 ([]:List (List UInt8)) [0,1] hz1 ot wt sm ?_
   clear hz1
   intro i1 s1 hi1 hW1 hz1
   refine rS ?_
   refine AWP.seq ?_
   refine AWP.cond rfl (fun hb => ?_) (fun hb => ?_)
   ·have hlt1:i1<a0.Group.length:=ot
    rw[yh hlt1]at hz1;simp only[y6k]at hz1
    iterate 3 refine rS ?_
    exact⟨_,[0,3],hlt1,by(and_intros<;>first|(simp only[ln,List.length_append,List.length_singleton,List.length_nil]at *;omega)|(intro v hv;exact(List.mem_append.1 hv).elim (fun h=>by first|exact hW1 v h|exact hW1.2 v h|exact hW1.2.2 v h) (fun h=>by rw[List.mem_singleton]at h;subst h;exact yoe _ (by have:=hg9 i1;omega) (by have:=hg9 i1;omega)))),hz1,sm⟩
   ·obtain rfl:i1=a0.Group.length:=ot
    rw[yg (Nat.le_refl _)]at hz1;subst hz1;dsimp only at hR
    refine AWP.exit ?_;refine yb ?_
    iterate 2 refine rS ?_
    refine AWP.cond rfl (fun hb => ?_) (fun hb => ?_)
    ·replace hR:=ct hR
     iterate 2 refine rS ?_
     refine AWP.ret ?_
     subst hR
     exact es
    ·replace hR:=cf hR
     refine rS ?_
     refine AWP.ret ?_
     subst hR
     exact es
  ·replace hR:=cf hR
   refine rS ?_
   refine AWP.cond rfl (fun hb => ?_) (fun hb => ?_)
   ·replace hR:=ct hR
    iterate 2 refine rS ?_
    refine AWP.ret ?_
    subst hR
    exact es
   ·replace hR:=cf hR
    refine rS ?_
    refine AWP.ret ?_
    subst hR
    exact es
end N217
def D_zuc : DF
 | [x0]=>some (.str (zuc (rdG yc x0)),false,[wG yf yc x0,bdCharacter (rdG yc x0),(rdG yc x0).Group.length≤4,∀ v∈(rdG yc x0).Group,1≤v∧v≤9])
 | _=>none
theorem y6x:OkD Tryz.prog 217 D_zuc:=by unfold D_zuc;exact dk N217.den
end Go.Ab
