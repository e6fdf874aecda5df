/- A part of a proof: walks of functions and lemmas of our own. No conditions. -/
import Derived.Test.YtopoomikfjodkaaGreatDoorRAl
import Derived.Test.YtopoomikfjodkaaGreatDoorRBc
import Derived.Test.YtopoomikfjodkaaGreatDoorRBd
import Derived.Test.YtopoomikfjodkaaGreatDoorRBi
import Derived.Test.YtopoomikfjodkaaGreatDoorRAq
import Derived.Test.YtopoomikfjodkaaGreatDoorRAv
import Derived.Test.YtopoomikfjodkaaGreatDoorRAi
import Derived.Test.YtopoomikfjodkaaGreatDoorRAp
set_option linter.unusedSectionVars false
set_option linter.unusedVariables false
set_option linter.unusedSimpArgs false
set_option maxHeartbeats 1000000
namespace Go.Ab
open Go Go.Proofs
def ypt (a0:Character) (i1:Nat) (s1:List Int):Except ((List Int)) (List Int):=
 (bif decide (0<(i1:Int))then .ok ((s1++([5]:List Int))++([((zgc ((a0.Letter.getD 0 0).toNat:Int)).getD i1 default)]:List Int))else .ok (s1++([((zgc ((a0.Letter.getD 0 0).toNat:Int)).getD i1 default)]:List Int)))
def ybt (a0:Character) (i2:Nat) (s2:List Int) (i3:Nat) (s3:List Int):Except ((List Int)) (List Int):=
 (bif decide (0<(i3:Int))then .ok ((s3++([(zyc a0.Kind)]:List Int))++([(zif a0.Kind)]:List Int))else(bif decide (0<(i2:Int))then .ok ((s3++([IntKind.wrap .i64 ((zyc a0.Kind)+20)]:List Int))++([(zif a0.Kind)]:List Int))else .ok (s3++([(zif a0.Kind)]:List Int))))
def yat (a0:Character) (i2:Nat) (s2:List Int):Except ((List Int)) (List Int):=
 (match ye (ybt a0 i2 s2) (((([1]:List Int).getD i2 default)).toNat-0) 0 s2 with|.error e=>.error e|.ok s3=>.ok s3)
def yjs (a0:Character) (i4:Nat) (s4:List Int) (i5:Nat) (s5:List Int):Except ((List Int)) (List Int):=
 (bif decide (0<(i5:Int))then .ok ((s5++([(zyc a0.Kind)]:List Int))++([(zif a0.Kind)]:List Int))else(bif decide (0<(i4:Int))then .ok ((s5++([IntKind.wrap .i64 ((zyc a0.Kind)+20)]:List Int))++([(zif a0.Kind)]:List Int))else .ok (s5++([(zif a0.Kind)]:List Int))))
def y6s (a0:Character) (i4:Nat) (s4:List Int):Except ((List Int)) (List Int):=
 (match ye (yjs a0 i4 s4) (((a0.Group.getD i4 default)).toNat-0) 0 s4 with|.error e=>.error e|.ok s5=>.ok s5)
def zr (a0:Character):(List Int):=
 (bif (a0.Kind == 8)then(match ye (ypt a0) (((zgc ((a0.Letter.getD 0 0).toNat:Int)).length)-0) 0 ([]:List Int)with|.error e=>e|.ok s1=>s1)else(bif ((a0.Group.length:Int) == 0)then(match ye (yat a0) (1-0) 0 ([]:List Int)with|.error e=>e|.ok s2=>(bif (a0.Letter == [76])then s2++([(zyc a0.Kind),20]:List Int)else s2))else(match ye (y6s a0) (a0.Group.length-0) 0 ([]:List Int)with|.error e=>e|.ok s4=>(bif (a0.Letter == [76])then s4++([(zyc a0.Kind),20]:List Int)else s4))))
namespace N329
theorem DD:DOk Tryz.prog (Go.Ab.DD [(367,dP D_zgc),(368,dP D_zyc),(369,dP D_zif)]):=ya yi5.e <| ya yfx.e <| ya yp8.e <| yc _
theorem dn:type_of% (And.intro @D_zgc.eq_1 <| And.intro @D_zyc.eq_1 <| @D_zif.eq_1):=by and_intros<;>intros<;>rfl
theorem o2 {p:Prop} (h:p:=by(first|(and_intros<;>first|decide|omega|(simp;(first|done|fail))|(rw[IntKind.wrap_i64];have:=hg9 i4;omega)|(rw[IntKind.wrap_i64];have:=hg1 i2;omega)|(rw[IntKind.wrap_i64];omega)|(intro i hi;exact yff _ _ i hi)|(intro i hi;exact yzq _ _ _ i hi)));first|done|fail):p:=h
theorem o3 {p:Prop} (h:p:=by(first|(refine⟨⟨Nat.le_refl _,fun i hi=>yos _ _ _ i hi⟩,.inl fun i hi=>by rw[y2k _ _ _ i hi];simp[NoBorL,NoBor],by simp,fun i hi=>by rw[y2k _ _ _ i hi];exact yab _⟩));first|done|fail):p:=h
theorem lx {p:Prop} (h:p:=by(exact lxx);first|done|fail):p:=h
set_option maxHeartbeats 1000000 in
set_option maxRecDepth 20000 in
theorem den (a0:Character) (hb0:bdCharacter a0) (hp0:a0.Group.length≤4) (hp1:∀ v∈a0.Group,v≤9) (hp2:a0.Kind=8→a0.Letter.length=1∧65≤(a0.Letter.getD 0 0).toNat∧(a0.Letter.getD 0 0).toNat≤90):Den Tryz.prog 329 [.ep (yg a0)] (ownL 2 1 yr (zr a0)):=by
 generalize hR:zr a0=r
 unfold zr at hR
 refine di Tryz.func329 Tryz.ntmps329 Tryz.results329 ?_
 intro c hL hc hk
 obtain⟨hL0,_⟩:=hL
 have hw0:bwCharacter a0:=yn a0 hL0
 clear hL0
 simp only[pars,Nat.zero_add]
 have hg9:∀ i:Nat,a0.Group.getD i default≤9:=fun i=>ykp hp1 i
 have hs9:=y1t ((a0.Letter.getD 0 0).toNat:Int)
 have hg1:∀ i:Nat,([1]:List Int).getD i default≤9:=fun i=>ykp (by simp) i
 iterate 3 refine rS ?_
 refine AWP.cond rfl (fun hb => ?_) (fun hb => ?_)
 ·replace hR:=ct hR
  iterate 2 refine rS ?_
  refine AWP.block ?_
  generalize hz1:ye (ypt a0) (((zgc ((a0.Letter.getD 0 0).toNat:Int)).length)-0) 0 ([]:List Int)=z1 at hR
  refine AWP.range (ypt a0) (fun i1 s1=>⟨[(3,.ref 0 1 0 s1.length),(4,.ref 1 1 0 ((zgc ((a0.Letter.getD 0 0).toNat:Int)).length)),(5,.int .i64 (i1:Int))],[.arr 2 1 s1.length (fun j=>yr (s1.getD j default)),.arr 2 1 (zgc ((a0.Letter.getD 0 0).toNat:Int)).length (fun j=>yr ((zgc ((a0.Letter.getD 0 0).toNat:Int)).getD j default))]⟩) (fun i1 s1=>s1.length≤([]:List Int).length+2 * i1∧s1.length≤2 * i1) (((zgc ((a0.Letter.getD 0 0).toNat:Int)).length)) 0 ([]:List Int) [0,1] hz1 ot wt sm ?_
  clear hz1
  intro i1 s1 hi1 hW1 hz1
  refine rS ?_
  refine AWP.cond rfl (fun hb => ?_) (fun hb => ?_)
  ·have hlt1:i1<((zgc ((a0.Letter.getD 0 0).toNat:Int)).length):=ot
   rw[yj hlt1]at hz1;simp only[ypt]at hz1
   refine rS ?_
   refine AWP.cond rfl (fun hb => ?_) (fun hb => ?_)
   ·simp only[hb,cond_true]at hz1
    iterate 3 refine rS ?_
    exact⟨_,[5,1],hlt1,wt,hz1,sm⟩
   ·simp only[hb,cond_false]at hz1
    iterate 2 refine rS ?_
    exact⟨_,[3,1],hlt1,wt,hz1,sm⟩
  ·obtain rfl:i1=((zgc ((a0.Letter.getD 0 0).toNat:Int)).length):=ot
   rw[yi (Nat.le_refl _)]at hz1;subst hz1;dsimp only at hR
   refine AWP.exit ?_;refine yb ?_
   refine rS ?_
   refine AWP.ret ?_
   subst hR
   exact es
 ·replace hR:=cf hR
  iterate 2 refine rS ?_
  refine AWP.cond rfl (fun hb => ?_) (fun hb => ?_)
  ·replace hR:=ct hR
   iterate 2 refine rS ?_
   refine AWP.block ?_
   generalize hz2:ye (yat a0) (1-0) 0 ([]:List Int)=z2 at hR
   refine AWP.range (yat a0) (fun i2 s2=>⟨[(0,.ep (yg a0)),(3,.ref 0 1 0 s2.length),(6,.ref 1 1 0 1),(7,.int .i64 (i2:Int))],[.arr 2 1 s2.length (fun j=>yr (s2.getD j default)),.arr 2 1 ([1]:List Int).length (fun j=>yr (([1]:List Int).getD j default))]⟩) (fun i2 s2=>s2.length≤18 * i2) (1) 0 ([]:List Int) [0,1] hz2 ot wt sm ?_
   clear hz2
   intro i2 s2 hi2 hW2 hz2
   refine rS ?_
   refine AWP.cond rfl (fun hb => ?_) (fun hb => ?_)
   ·have hlt2:i2<1:=ot
    rw[yj hlt2]at hz2;simp only[yat]at hz2
    refine rS ?_
    refine AWP.block ?_
    generalize hz3:ye (ybt a0 i2 s2) (((([1]:List Int).getD i2 default)).toNat-0) 0 s2=z3 at hz2
    refine AWP.range (ybt a0 i2 s2) (fun i3 s3=>⟨[(0,.ep (yg a0)),(3,.ref 0 1 0 s3.length),(6,.ref 1 1 0 1),(7,.int .i64 (i2:Int)),(8,.int .i64 (i3:Int))],[.arr 2 1 s3.length (fun j=>yr (s3.getD j default)),.arr 2 1 ([1]:List Int).length (fun j=>yr (([1]:List Int).getD j default))]⟩) (fun i3 s3=>s3.length≤s2.length+2 * i3∧s3.length≤18 * i2+2 * i3) (((([1]:List Int).getD i2 default)).toNat) 0 s2 [0,1] hz3 ot wt sm ?_
    clear hz3
    intro i3 s3 hi3 hW3 hz3
    refine rS ?_
    refine AWP.cond rfl (fun hb => ?_) (fun hb => ?_)
    ·have hlt3:i3<((([1]:List Int).getD i2 default)).toNat:=ot
     rw[yj hlt3]at hz3;simp only[ybt]at hz3
     refine rS ?_
     refine AWP.cond rfl (fun hb => ?_) (fun hb => ?_)
     ·simp only[hb,cond_true]at hz3
      iterate 3 refine rS ?_
      exact⟨_,[5,1],hlt3,wt,hz3,sm⟩
     ·simp only[hb,cond_false]at hz3
      refine rS ?_
      refine AWP.cond rfl (fun hb => ?_) (fun hb => ?_)
      ·simp only[hb,cond_true]at hz3
       iterate 3 refine rS ?_
       exact⟨_,[5,1],hlt3,wt,hz3,sm⟩
      ·simp only[hb,cond_false]at hz3
       iterate 2 refine rS ?_
       exact⟨_,[3,1],hlt3,wt,hz3,sm⟩
    ·obtain rfl:i3=((([1]:List Int).getD i2 default)).toNat:=ot
     rw[yi (Nat.le_refl _)]at hz3;subst hz3;dsimp only at hz2
     refine AWP.exit ?_;refine yb ?_
     refine rS ?_
     exact⟨_,[0,1],hlt2,by(have h9:=hg1 i2;omega),hz2,sm⟩
   ·obtain rfl:i2=1:=ot
    rw[yi (Nat.le_refl _)]at hz2;subst hz2;dsimp only at hR
    refine AWP.exit ?_;refine yb ?_
    refine rS ?_
    refine AWP.cond rfl (fun hb => ?_) (fun hb => ?_)
    ·replace hR:=ct hR
     iterate 2 refine rS ?_
     refine AWP.ret ?_
     subst hR
     exact es
    ·replace hR:=cf hR
     refine rS ?_
     refine AWP.ret ?_
     subst hR
     exact es
  ·replace hR:=cf hR
   refine rS ?_
   refine AWP.block ?_
   refine AWP.lensS 6 rfl (fun hLn4 => ?_)
   generalize hz4:ye (y6s a0) (a0.Group.length-0) 0 ([]:List Int)=z4 at hR
   refine AWP.range (y6s a0) (fun i4 s4=>⟨[(0,.ep (yg a0)),(3,.ref 0 1 0 s4.length),(6,encL 1 yr a0.Group),(7,.int .i64 (i4:Int))],[.arr 2 1 s4.length (fun j=>yr (s4.getD j default))]⟩) (fun i4 s4=>s4.length≤18 * i4) (a0.Group.length) 0 ([]:List Int) [0] hz4 ot wt sm ?_
   clear hz4
   intro i4 s4 hi4 hW4 hz4
   refine rS ?_
   refine AWP.cond rfl (fun hb => ?_) (fun hb => ?_)
   ·have hlt4:i4<a0.Group.length:=ot
    rw[yj hlt4]at hz4;simp only[y6s]at hz4
    refine rS ?_
    refine AWP.block ?_
    generalize hz5:ye (yjs a0 i4 s4) (((a0.Group.getD i4 default)).toNat-0) 0 s4=z5 at hz4
    refine AWP.range (yjs a0 i4 s4) (fun i5 s5=>⟨[(0,.ep (yg a0)),(3,.ref 0 1 0 s5.length),(6,encL 1 yr a0.Group),(7,.int .i64 (i4:Int)),(8,.int .i64 (i5:Int))],[.arr 2 1 s5.length (fun j=>yr (s5.getD j default))]⟩) (fun i5 s5=>s5.length≤s4.length+2 * i5∧s5.length≤18 * i4+2 * i5) (((a0.Group.getD i4 default)).toNat) 0 s4 [0] hz5 ot wt sm ?_
    clear hz5
    intro i5 s5 hi5 hW5 hz5
    refine rS ?_
    refine AWP.cond rfl (fun hb => ?_) (fun hb => ?_)
    ·have hlt5:i5<((a0.Group.getD i4 default)).toNat:=ot
     rw[yj hlt5]at hz5;simp only[yjs]at hz5
     refine rS ?_
     refine AWP.cond rfl (fun hb => ?_) (fun hb => ?_)
     ·simp only[hb,cond_true]at hz5
      iterate 3 refine rS ?_
      exact⟨_,[4],hlt5,wt,hz5,sm⟩
     ·simp only[hb,cond_false]at hz5
      refine rS ?_
      refine AWP.cond rfl (fun hb => ?_) (fun hb => ?_)
      ·simp only[hb,cond_true]at hz5
       iterate 3 refine rS ?_
       exact⟨_,[4],hlt5,wt,hz5,sm⟩
      ·simp only[hb,cond_false]at hz5
       iterate 2 refine rS ?_
       exact⟨_,[2],hlt5,wt,hz5,sm⟩
    ·obtain rfl:i5=((a0.Group.getD i4 default)).toNat:=ot
     rw[yi (Nat.le_refl _)]at hz5;subst hz5;dsimp only at hz4
     refine AWP.exit ?_;refine yb ?_
     refine rS ?_
     exact⟨_,[0],hlt4,by(have h9:=hg9 i4;omega),hz4,sm⟩
   ·obtain rfl:i4=a0.Group.length:=ot
    rw[yi (Nat.le_refl _)]at hz4;subst hz4;dsimp only at hR
    refine AWP.exit ?_;refine yb ?_
    refine rS ?_
    refine AWP.cond rfl (fun hb => ?_) (fun hb => ?_)
    ·replace hR:=ct hR
     iterate 2 refine rS ?_
     refine AWP.ret ?_
     subst hR
     exact es
    ·replace hR:=cf hR
     refine rS ?_
     refine AWP.ret ?_
     subst hR
     exact es
end N329
def D_zr : DF
 | [x0]=>some (ownL 2 1 yr (zr (rdP yd x0)),false,[wP yg yd x0,bdCharacter (rdP yd x0),(rdP yd x0).Group.length≤4,∀ v∈(rdP yd x0).Group,v≤9,(rdP yd x0).Kind=8→(rdP yd x0).Letter.length=1∧65≤((rdP yd x0).Letter.getD 0 0).toNat∧((rdP yd x0).Letter.getD 0 0).toNat≤90])
 | _=>none
theorem yzab:OkD Tryz.prog 329 D_zr:=by unfold D_zr;exact dk N329.den
end Go.Ab

namespace Go.Ab
open Go Go.Proofs
def zzg (a0:Character):Int:=
 (bif (zmg a0)then 0 else(bif (a0.Kind == 3)then 20 else IntKind.wrap .i64 ((zef (zr a0))+(zwg a0))))
namespace N276
theorem DD:DOk Tryz.prog (Go.Ab.DD [(275,dP D_zmg),(328,dP D_zef),(329,dP D_zr),(330,dP D_zwg)]):=ya yvw.e <| ya y06.e <| ya yzab.e <| ya y05.e <| yc _
theorem dn:type_of% (And.intro @D_zmg.eq_1 <| And.intro @D_zef.eq_1 <| And.intro @D_zr.eq_1 <| @D_zwg.eq_1):=by and_intros<;>intros<;>rfl
theorem den (a0:Character) (hb0:bdCharacter a0) (hp0:a0.Group.length≤4) (hp1:∀ v∈a0.Group,v≤9) (hp2:a0.Kind=8→a0.Letter.length=1∧65≤(a0.Letter.getD 0 0).toNat∧(a0.Letter.getD 0 0).toNat≤90):Den Tryz.prog 276 [.ep (yg a0)] (.int .i64 (zzg a0)):=by
 generalize hR:zzg a0=r
 unfold zzg at hR
 refine di Tryz.func276 Tryz.ntmps276 Tryz.results276 ?_
 intro c hL hc hk
 obtain⟨hL0,_⟩:=hL
 have hw0:bwCharacter a0:=yn a0 hL0
 clear hL0
 simp only[pars,Nat.zero_add]
 iterate 2 refine rS ?_
 refine AWP.cond rfl (fun hb => ?_) (fun hb => ?_)
 ·replace hR:=ct hR
  refine rS ?_
  refine AWP.ret ?_
  subst hR
  exact es
 ·replace hR:=cf hR
  refine rS ?_
  refine AWP.cond rfl (fun hb => ?_) (fun hb => ?_)
  ·replace hR:=ct hR
   refine rS ?_
   refine AWP.ret ?_
   subst hR
   exact es
  ·replace hR:=cf hR
   refine rS ?_
   refine AWP.ret ?_
   subst hR
   exact es
end N276
def D_zzg : DF
 | [x0]=>some (.int .i64 (zzg (rdP yd x0)),false,[wP yg yd x0,bdCharacter (rdP yd x0),(rdP yd x0).Group.length≤4,∀ v∈(rdP yd x0).Group,v≤9,(rdP yd x0).Kind=8→(rdP yd x0).Letter.length=1∧65≤((rdP yd x0).Letter.getD 0 0).toNat∧((rdP yd x0).Letter.getD 0 0).toNat≤90])
 | _=>none
theorem yo8:OkD Tryz.prog 276 D_zzg:=by unfold D_zzg;exact dk N276.den
end Go.Ab

namespace Go.Ab
open Go Go.Proofs
def znc (a0:Character):Bool:=
 (bif (!(zag a0))then false else(bif (zmg a0)then(a0.Period == 0)else(bif ((a0.Kind == 3) && ((a0.Period.tmod 2) != 0))then false else(zg a0.Period (zzg a0) 600))))
namespace N199
theorem DD:DOk Tryz.prog (Go.Ab.DD [(170,dP D_zg),(274,dP D_zag),(275,dP D_zmg),(276,dP D_zzg)]):=ya yrd.e <| ya yj8.e <| ya yvw.e <| ya yo8.e <| yc _
theorem dn:type_of% (And.intro @D_zg.eq_1 <| And.intro @D_zag.eq_1 <| And.intro @D_zmg.eq_1 <| @D_zzg.eq_1):=by and_intros<;>intros<;>rfl
theorem ol:type_of% (@zg.eq_1):=@zg.eq_1
theorem o0 {p:Prop} (h:p:=by(first|(have q9 := ‹(!zag a0)=false›;have h9:=yym a0 (by simpa using q9);first|exact⟨hb0,h9.1,fun v hv=>(h9.2.1 v hv).2,h9.2.2⟩|exact⟨h9.1,fun v hv=>(h9.2.1 v hv).2,h9.2.2⟩|(and_intros<;>first|exact hb0|exact h9.1|exact fun v hv=>(h9.2.1 v hv).2|exact h9.2.2|decide|(intros;decide))));first|done|fail):p:=h
theorem den (a0:Character) (hb0:bdCharacter a0):Den Tryz.prog 199 [.ep (yg a0)] (.bool (znc a0)):=by
 generalize hR:znc a0=r
 unfold znc at hR
 refine di Tryz.func199 Tryz.ntmps199 Tryz.results199 ?_
 intro c hL hc hk
 obtain⟨hL0,_⟩:=hL
 have hw0:bwCharacter a0:=yn a0 hL0
 clear hL0
 simp only[pars,Nat.zero_add]
 iterate 2 refine rS ?_
 refine AWP.cond rfl (fun hb => ?_) (fun hb => ?_)
 ·replace hR:=ct hR
  refine rS ?_
  refine AWP.ret ?_
  subst hR
  exact es
 ·replace hR:=cf hR
  refine rS ?_
  refine AWP.cond rfl (fun hb => ?_) (fun hb => ?_)
  ·replace hR:=ct hR
   refine rS ?_
   refine AWP.ret ?_
   subst hR
   exact es
  ·replace hR:=cf hR
   refine rS ?_
   refine AWP.cond rfl (fun hb => ?_) (fun hb => ?_)
   ·replace hR:=ct hR
    refine rS ?_
    refine AWP.ret ?_
    subst hR
    exact es
   ·replace hR:=cf hR
    refine rD 6 ?_
    refine AWP.ret ?_
    subst hR
    exact es
end N199
def D_znc : DF
 | [x0]=>some (.bool (znc (rdP yd x0)),false,[wP yg yd x0,bdCharacter (rdP yd x0)])
 | _=>none
theorem yhw:OkD Tryz.prog 199 D_znc:=by unfold D_znc;exact dk N199.den
end Go.Ab

namespace Go.Ab
open Go Go.Proofs
theorem yd4 (g:List Int):zve g=zoe g:=Bool.eq_iff_iff.2 ((y3l g).trans (ykg g).symm)
theorem y8o (a:List UInt8):(zlc a != [])=decide (a.length=1∧65≤(a.getD 0 0).toNat∧(a.getD 0 0).toNat≤90):=by
 rw[y0k]
 by_cases h:a.length=1∧65≤(a.getD 0 0).toNat∧(a.getD 0 0).toNat≤90
 ·rw[if_pos h,decide_eq_true h]
  have hlt:(a.getD 0 0).toNat-65<ysd.length:=by show _<26;omega
  rw[List.getD_eq_getElem?_getD,List.getElem?_eq_getElem hlt,Option.getD_some]
  have:=(y6i _ (List.getElem_mem hlt)).1
  rw[bne_iff_ne]
  intro h2;rw[h2]at this;simp at this
 ·rw[if_neg h,decide_eq_false h];rfl
theorem y27 (L:List UInt8) (g:List Int) :
  (bif (L == [])then(((g.length:Int) == 0) || (((g.length:Int) == 1) && (ze (g.getD 0 default) 2 9)))else((L == [76]) && (zuc g [6]))) =
  (bif (L == [76])then(((g.length:Int) == 1) && ((g.getD 0 default) == 6))else(((L == []) && decide ((g.length:Int)≤1)) && (zoe g))):=by
 by_cases h1:L=[]
 ·subst h1
  simp only[show(([]:List UInt8) == [])=true from rfl,show(([]:List UInt8) == [76])=false from rfl,cond_true,cond_false,Bool.true_and]
  apply Bool.eq_iff_iff.2
  rw[Bool.and_eq_true,ykg,decide_eq_true_eq]
  match g with
  | []=>simp[yu0]
  | [x]=>
   have e:((([x]:List Int).length:Int) == 0)=false:=rfl
   have e2:((([x]:List Int).length:Int) == 1)=true:=rfl
   rw[e,e2]
   simp only[Bool.false_or,Bool.true_and,ze,Bool.and_eq_true,decide_eq_true_eq,List.getD_cons_zero,yu0,List.length_singleton,List.mem_singleton,forall_eq,List.sum_cons,List.sum_nil,ne_eq,List.cons.injEq,and_true]
   omega
  | x::y::t=>
   have e:(((x::y::t).length:Int) == 0)=false:=by rw[beq_eq_false_iff_ne];simp only[List.length_cons];omega
   have e2:(((x::y::t).length:Int) == 1)=false:=by rw[beq_eq_false_iff_ne];simp only[List.length_cons];omega
   rw[e,e2]
   simp only[Bool.false_and,Bool.or_self,Bool.false_eq_true,false_iff,List.length_cons]
   omega
 ·have e1:(L == [])=false:=by simpa using h1
  rw[e1]
  by_cases h2:L=[76]
  ·subst h2
   simp only[BEq.rfl,cond_true,cond_false,Bool.true_and,ydg]
   apply Bool.eq_iff_iff.2
   rw[Bool.and_eq_true,decide_eq_true_eq,beq_iff_eq,beq_iff_eq]
   constructor
   ·intro h;subst h;simp
   ·rintro⟨h3,h4⟩
    obtain⟨x,rfl⟩:=List.length_eq_one_iff.1 (show g.length=1 by omega)
    simp only[List.getD_cons_zero]at h4
    rw[h4]
  ·have e2:(L == [76])=false:=by simpa using h2
   rw[e2];simp
theorem y55 (c:Character) (hl:c.Colors.length<9223372036854775808):zag c=(zqc c.Colors && zqb c):=by
 unfold zag zqb zdi zg
 rw[y5r _ hl, ← y27,yd4,y8o]
 cases zfd c.Colors with
 | false=>simp
 | true=>
  simp only[Bool.not_true,Bool.or_false,Bool.true_and]
  rcases(show c.Kind=1∨c.Kind=2∨c.Kind=3∨c.Kind=4∨c.Kind=5∨c.Kind=6∨c.Kind=7∨c.Kind=8∨(c.Kind<1∨8<c.Kind)by omega)with h|h|h|h|h|h|h|h|h
  ·rw[h];rfl
  ·rw[h];rfl
  ·rw[h];rfl
  ·rw[h];rfl
  ·rw[h];rfl
  ·rw[h];rfl
  ·rw[h];rfl
  ·rw[h]
   show((((((c.Group.length:Int) == 0) && ((c.Letter.length:Int) == 1)) && decide (65≤((c.Letter.getD 0 0).toNat:Int))) && decide (((c.Letter.getD 0 0).toNat:Int)≤90)))=(decide (c.Letter.length=1∧65≤(c.Letter.getD 0 0).toNat∧(c.Letter.getD 0 0).toNat≤90) && ((c.Group.length:Int) == 0))
   apply Bool.eq_iff_iff.2
   simp only[Bool.and_eq_true,beq_iff_eq,decide_eq_true_eq]
   omega
  ·have e0:(decide (1≤c.Kind) && decide (c.Kind≤8))=false:=by
    rw[Bool.and_eq_false_iff,decide_eq_false_iff_not,decide_eq_false_iff_not];omega
   have e:∀ n:Int,1≤n→n≤8→(c.Kind == n)=false:=fun n h1 h2=>by rw[beq_eq_false_iff_ne];omega
   rw[e0,e 1 (by omega) (by omega),e 2 (by omega) (by omega),e 3 (by omega) (by omega),e 4 (by omega) (by omega),e 5 (by omega) (by omega),e 6 (by omega) (by omega),e 7 (by omega) (by omega),e 8 (by omega) (by omega)]
   rfl
theorem y4cb (l:List Int):zwf l=zef l:=rfl
theorem ycm (c:Character):zhe c=zmg c:=rfl
theorem ynt (c:Character) (h:zqb c=true) (h8:c.Kind≠8):(c.Letter != [])=(c.Letter == [76]):=by
 unfold zqb at h
 simp only[Bool.cond_eq_ite]at h
 have e8:(c.Kind == 8)=false:=by rw[beq_eq_false_iff_ne];exact h8
 repeat' split at h
 all_goals first
  | (rename_i q;rw[e8]at q;cases q;done)
  | (cases h;done)
  | (simp only[Bool.and_eq_true,beq_iff_eq]at h;rw[h.2];rfl)
  | (simp only[Bool.and_eq_true,beq_iff_eq]at h;rw[h.1];rfl)
  | (rename_i q;simp only[beq_iff_eq]at q;rw[q];rfl)
theorem yw3 (k:Int) (h:k=2∨k=4∨k=5∨k=6∨k=7∨k=8):(zcb k).1=zif k∧(zcb k).2.1=zyc k:=by
 rcases h with h|h|h|h|h|h<;>subst h<;>exact⟨rfl,rfl⟩
theorem yr8 (c:Character) (h:zqb c=true) (hk:c.Kind=2∨c.Kind=4∨c.Kind=5∨c.Kind=6∨c.Kind=7∨c.Kind=8):zz c=zr c:=by
 obtain⟨r1,r2⟩:=yw3 c.Kind hk
 by_cases h8:c.Kind=8
 ·have hs:(zlc c.Letter != [])=true:=by
   unfold zqb at h
   rw[h8]at h
   have h:(((zlc c.Letter) != []) && ((c.Group.length:Int) == 0))=true:=h
   rw[Bool.and_eq_true]at h
   exact h.1
  rw[y8o,decide_eq_true_eq]at hs
  have e1:=y0k c.Letter
  rw[if_pos hs]at e1
  have e2:=ywh ((c.Letter.getD 0 0).toNat:Int)
  rw[ytm _ (by omega) (by omega),show((((c.Letter.getD 0 0).toNat:Int)-65).toNat)=(c.Letter.getD 0 0).toNat-65 by omega]at e2
  have hd:(default:List UInt8)=[]:=rfl
  rw[hd]at e2
  have hall:∀ x∈ysd.getD ((c.Letter.getD 0 0).toNat-65) [],x=45∨x=46:=by
   have hlt:(c.Letter.getD 0 0).toNat-65<ysd.length:=by show _<26;omega
   rw[List.getD_eq_getElem?_getD,List.getElem?_eq_getElem hlt,Option.getD_some]
   exact(y6i _ (List.getElem_mem hlt)).2.2
  generalize ysd.getD ((c.Letter.getD 0 0).toNat-65) []=code at *
  have hb:ye (ye0 c) code.length 0 []=ye (ypt c) code.length 0 []:=y00 _ _ _ (fun j u _ hj=>by
   unfold ye0 ypt
   rw[e1,e2,r1,r2,h8]
   have hg:(code.map (fun c=>if c=46 then(5:Int)else 15)).getD j default=if code.getD j 0=46 then 5 else 15:=by
    rw[List.getD_eq_getElem?_getD,List.getD_eq_getElem?_getD,List.getElem?_map,List.getElem?_eq_getElem (by omega)]
    rfl
   rw[hg]
   have hm:=hall (code.getD j 0) (by rw[List.getD_eq_getElem?_getD,List.getElem?_eq_getElem (by omega),Option.getD_some];exact List.getElem_mem _)
   generalize code.getD j 0=x at hm
   rcases hm with hm|hm<;>subst hm<;>rfl)
  unfold zz zr
  rw[h8,e1,e2]
  simp only[List.length_map,Nat.sub_zero]
  rw[hb]
  rfl
 ·have e8:(c.Kind == 8)=false:=by rw[beq_eq_false_iff_ne];exact h8
  unfold zz zr
  rw[e8,ynt c h h8,r2]
  have b3:yg0 c=ybt c:=by
   funext i s j t
   unfold yg0 ybt
   rw[r1,r2]
  have b5:ynz c=yjs c:=by
   funext i s j t
   unfold ynz yjs
   rw[r1,r2]
  have b2:yr0 c=yat c:=by
   funext i s
   unfold yr0 yat
   rw[b3]
   all_goals rfl
  have b4:yj0 c=y6s c:=by
   funext i s
   unfold yj0 y6s
   rw[b5]
   all_goals rfl
  rw[b2,b4]
  rfl
theorem yty (c:Character) (h:zqb c=true) (hs:zhe c=false):zai c=zzg c:=by
 unfold zai zzg
 rw[hs, ← ycm,hs]
 simp only[cond_false]
 by_cases h3:c.Kind=3
 ·rw[h3];rfl
 ·have e3:(c.Kind == 3)=false:=by rw[beq_eq_false_iff_ne];exact h3
  rw[e3]
  simp only[cond_false]
  have hk:c.Kind=2∨c.Kind=4∨c.Kind=5∨c.Kind=6∨c.Kind=7∨c.Kind=8:=by
   unfold zqb at h
   unfold zhe at hs
   simp only[Bool.cond_eq_ite]at h
   simp only[Bool.or_eq_false_iff,beq_eq_false_iff_ne]at hs
   repeat' split at h
   all_goals (try simp only[beq_iff_eq]at *)
   all_goals first|omega|(cases h;done)
  rw[yr8 c h hk,y4cb]
  have hg:=(yhe c h).1
  have hone:c.Kind=6∨c.Kind=7∨c.Kind=8→c.Group.length≤1:=by
   intro hq
   unfold zqb at h
   simp only[Bool.cond_eq_ite]at h
   repeat' split at h
   all_goals (try simp only[Bool.and_eq_true,Bool.or_eq_true,beq_iff_eq,ydg,decide_eq_true_eq]at *)
   all_goals first|omega|(rcases h with h|h<;>omega)|(rw[h.2];simp)
  have e1:∀ n:Int,IntKind.wrap .i64 n=n∨True:=fun _=>.inr trivial
  unfold zwg
  rcases hk with hk|hk|hk|hk|hk|hk
  ·rw[hk]
   cases decide (1<(c.Group.length:Int))<;>rfl
  ·rw[hk]
   cases decide (1<(c.Group.length:Int))<;>rfl
  ·rw[hk]
   cases decide (1<(c.Group.length:Int))<;>rfl
  ·have:=hone (by omega)
   rw[hk,decide_eq_false (show ¬ 1<(c.Group.length:Int)by omega)];rfl
  ·have:=hone (by omega)
   rw[hk,decide_eq_false (show ¬ 1<(c.Group.length:Int)by omega)];rfl
  ·have:=hone (by omega)
   rw[hk,decide_eq_false (show ¬ 1<(c.Group.length:Int)by omega)];rfl
theorem ywg (c:Character) (hl:c.Colors.length<9223372036854775808):zab c=znc c:=by
 unfold zab znc
 rw[y55 c hl, ← ycm]
 cases h1:zqc c.Colors with
 | false=>rfl
 | true=>
  cases h2:zqb c with
  | false=>rfl
  | true=>
   cases h3:zhe c with
   | true=>rfl
   | false=>
    rw[yty c h2 h3]
    simp only[Bool.not_true,Bool.or_self,Bool.and_self,cond_false,ze,zg]
    cases h4:(c.Kind == 3)with
    | false=>
     have:(c.Kind != 3)=true:=by rw[bne,h4];rfl
     rw[this];simp
    | true=>
     have:(c.Kind != 3)=false:=by rw[bne,h4];rfl
     rw[this]
     simp only[Bool.false_or,Bool.true_and]
     cases h5:(c.Period.tmod 2 == 0)with
     | true=>
      have:(c.Period.tmod 2 != 0)=false:=by rw[bne,h5];rfl
      rw[this];simp
     | false=>
      have:(c.Period.tmod 2 != 0)=true:=by rw[bne,h5];rfl
      rw[this];simp
end Go.Ab

namespace Go.Ab
open Go Go.Proofs
theorem ybcb (s:List UInt8) (c:UInt8) : -1≤Go.Lib.indexByte s c∧(0≤Go.Lib.indexByte s c↔c∈s):=by
 induction s with
 | nil=>simp[Go.Lib.indexByte]
 | cons b l ih=>
  obtain⟨i1,i2⟩:=ih
  by_cases hb:b=c
  ·subst hb;simp[Go.Lib.indexByte]
  ·have hb2:¬ c=b:=fun h=>hb h.symm
   have e1:(b == c)=false:=by simpa using hb
   by_cases hm:c∈l
   ·have h0:=i2.2 hm
    have e2:(Go.Lib.indexByte l c == -1)=false:=by rw[beq_eq_false_iff_ne];omega
    have e3:Go.Lib.indexByte (b::l) c=Go.Lib.indexByte l c+1:=by simp only[Go.Lib.indexByte,e1,e2,Bool.false_eq_true,if_false]
    rw[e3]
    exact⟨by omega,fun _=>List.mem_cons_of_mem _ hm,fun _=>by omega⟩
   ·have h0:¬ 0≤Go.Lib.indexByte l c:=fun h=>hm (i2.1 h)
    have e0:Go.Lib.indexByte l c = -1:=by omega
    have e3:Go.Lib.indexByte (b::l) c = -1:=by simp only[Go.Lib.indexByte,e1,e0,Bool.false_eq_true,if_false];rfl
    rw[e3]
    refine⟨by omega,fun h=>by omega,fun h => ?_⟩
    rcases List.mem_cons.1 h with h|h
    ·exact absurd h hb2
    ·exact absurd h hm
theorem yiv (s:List UInt8) (c:UInt8):zpc s [c]=decide (c∈s):=by
 unfold zpc
 rw[List.getD_cons_zero]
 exact decide_eq_decide.2 (ybcb s c).2
theorem y86 (s:List UInt8) (c:UInt8):zpc (s++[c]) [c]=true:=by
 rw[yiv];simp
theorem ytcb (s:List UInt8) (b c:UInt8) (h:b≠c):zpc (s++[b]) [c]=zpc s [c]:=by
 rw[yiv,yiv]
 have:¬ c=b:=fun e=>h e.symm
 simp[this]
theorem yoy (c:UInt8) (g:Sector→List UInt8→Except (List UInt8) (List UInt8)) (hg:∀ x u,g x u=bif ((x.Color == [c]) && (!(zpc u [c])))then .ok (u++[c])else .ok u) :
  ∀ (l:List Sector) (u:List UInt8),zpc u [c]=true→ybm g l u=.ok u
 | [],u,_=>rfl
 | x::l,u,h=>by
  rw[y7g,hg,h,Bool.not_true,Bool.and_false]
  exact yoy c g hg l u h
theorem y41 (c:UInt8) (g:Sector→List UInt8→Except (List UInt8) (List UInt8)) (hg:∀ x u,g x u=bif ((x.Color == [c]) && (!(zpc u [c])))then .ok (u++[c])else .ok u) :
  ∀ (l:List Sector) (u:List UInt8),zpc u [c]=false→ybm g l u=.ok (bif l.any (fun x=>x.Color == [c])then u++[c]else u)
 | [],u,_=>rfl
 | x::l,u,h=>by
  rw[y7g,hg,h,Bool.not_false,Bool.and_true,List.any_cons]
  cases hx:(x.Color == [c])with
  | true=>
   simp only[cond_true,Bool.true_or]
   exact yoy c g hg l _ (y86 u c)
  | false=>
   simp only[cond_false,Bool.false_or]
   exact y41 c g hg l u h
theorem ys1 (c:List UInt8) (g:Sector→List UInt8→Except (Sum (List UInt8) (List UInt8)) (List UInt8)) (hg:∀ x u,g x u=bif (x.Color == c)then .error (.inr (u++c))else .ok u) :
  ∀ (l:List Sector) (u:List UInt8),ybm g l u=bif l.any (fun x=>x.Color == c)then .error (.inr (u++c))else .ok u
 | [],u=>rfl
 | x::l,u=>by
  rw[y7g,hg,List.any_cons]
  cases hx:(x.Color == c)with
  | true=>rfl
  | false=>
   simp only[cond_false,Bool.false_or]
   exact ys1 c g hg l u
def yon (a:List Sector) (s:List UInt8) (c:UInt8):List UInt8:=bif a.any (fun x=>x.Color == [c])then s++[c]else s
theorem yxg (a:List Sector) (i:Nat) (s:List UInt8) (c:UInt8) (h4:i<4) (hc:(([87,82,71,89].take ((IntKind.wrap .i64 ((i:Int)+1)).toNat)).drop i)=[c]) (h:zpc s [c]=false) :
  y5n a i s=.ok (yon a s c):=by
 unfold y5n
 rw[y4d (fun x u=>bif ((x.Color == [c]) && (!(zpc u [c])))then .ok (u++[c])else .ok u) a s (fun j u _=>by simp only[yys,hc])]
 rw[y41 c _ (fun _ _=>rfl) a s h]
 rfl
theorem ytg (a:List Sector) (i:Nat) (s:List UInt8) (c:UInt8) (hc:([[87],[82],[71],[89]]:List (List UInt8)).getD i default=[c]):yao a i s=.ok (yon a s c):=by
 unfold yao
 rw[y4d (fun x u=>bif (x.Color == [c])then .error (.inr (u++[c]))else .ok u) a s (fun j u _=>by simp only[yct,hc])]
 rw[ys1 [c] _ (fun _ _=>rfl) a s]
 unfold yon
 cases a.any (fun x=>x.Color == [c])<;>rfl
theorem yfd (a:List Sector) (s:List UInt8) (b c:UInt8) (h:b≠c):zpc (yon a s b) [c]=zpc s [c]:=by
 unfold yon
 cases a.any (fun x=>x.Color == [b])with
 | true=>exact ytcb s b c h
 | false=>rfl
theorem y9j (a:List Sector):zsd a=zwd a:=by
 unfold zsd zwd
 have n0:∀ c:UInt8,zpc [] [c]=false:=by intro c;simp[zpc,Go.Lib.indexByte]
 have l4:([87,82,71,89]:List Nat).length-0=4:=rfl
 rw[l4]
 simp only[ye,Nat.sub_zero]
 rw[yxg a 0 [] 87 (by omega) rfl (n0 _),ytg a 0 [] 87 rfl]
 simp only
 rw[yxg a (0+1) _ 82 (by omega) rfl (by rw[yfd _ _ _ _ (by decide)];exact n0 _),ytg a (0+1) _ 82 rfl]
 simp only
 rw[yxg a (0+1+1) _ 71 (by omega) rfl (by rw[yfd _ _ _ _ (by decide),yfd _ _ _ _ (by decide)];exact n0 _),ytg a (0+1+1) _ 71 rfl]
 simp only
 rw[yxg a (0+1+1+1) _ 89 (by omega) rfl (by rw[yfd _ _ _ _ (by decide),yfd _ _ _ _ (by decide),yfd _ _ _ _ (by decide)];exact n0 _),ytg a (0+1+1+1) _ 89 rfl]
end Go.Ab

namespace Go.Ab
open Go Go.Proofs
def ztf (a0:Aid):Bool:=
 (bif (((!(zab a0.Light)) || (!(zuh a0.Intensity))) || (!(zjb a0.Sectors)))then false else(bif ((a0.Sectors.length:Int) == 0)then((a0.Light.Colors.length:Int) == 1)else((zsd a0.Sectors) == a0.Light.Colors)))
namespace N105
theorem DD:DOk Tryz.prog (Go.Ab.DD [(214,dP D_zuh),(215,dP D_zjb),(216,dP D_zsd),(91,dP D_zab)]):=ya yh8.e <| ya y4p.e <| ya yg7.e <| ya y6k.e <| yc _
theorem dn:type_of% (And.intro @D_zuh.eq_1 <| And.intro @D_zjb.eq_1 <| And.intro @D_zsd.eq_1 <| @D_zab.eq_1):=by and_intros<;>intros<;>rfl
theorem den (a0:Aid) (hb0:bdAid a0):Den Tryz.prog 105 [.agg (eAid a0)] (.bool (ztf a0)):=by
 generalize hR:ztf a0=r
 unfold ztf at hR
 refine di Tryz.func105 Tryz.ntmps105 Tryz.results105 ?_
 intro c hL hc hk
 obtain⟨hL0,_⟩:=hL
 have hw0:bwAid a0:=yxb a0 hL0
 clear hL0
 simp only[pars,Nat.zero_add]
 iterate 2 refine rS ?_
 refine AWP.cond rfl (fun hb => ?_) (fun hb => ?_)
 ·replace hR:=ct hR
  refine rS ?_
  refine AWP.ret ?_
  subst hR
  exact es
 ·replace hR:=cf hR
  refine rS ?_
  refine AWP.cond rfl (fun hb => ?_) (fun hb => ?_)
  ·replace hR:=ct hR
   refine rS ?_
   refine AWP.ret ?_
   subst hR
   exact es
  ·replace hR:=cf hR
   refine rD 6 ?_
   refine AWP.ret ?_
   subst hR
   exact es
end N105
def D_ztf : DF
 | [x0]=>some (.bool (ztf (rdG dAid x0)),false,[wG eAid dAid x0,bdAid (rdG dAid x0)])
 | _=>none
theorem yby:OkD Tryz.prog 105 D_ztf:=by unfold D_ztf;exact dk N105.den
end Go.Ab

namespace Go.Ab
open Go Go.Proofs
def zcg (a0:Aid):Bool:=
 ((((((ztd a0.Number) && (zpf a0.Name)) && (zke a0.At)) && (zci a0.Height)) && (zdc a0.Mark)) && ((ztf a0) || (zvh a0)))
namespace N104
theorem DD:DOk Tryz.prog (Go.Ab.DD [(105,dP D_ztf),(17,dP D_zdc),(209,dP D_ztd),(210,dP D_zpf),(211,dP D_zke),(212,dP D_zci),(213,dP D_zvh)]):=ya yby.e <| ya yri.e <| ya yoq.e <| ya y45.e <| ya yip.e <| ya y33.e <| ya ym5.e <| yc _
theorem dn:type_of% (And.intro @D_ztf.eq_1 <| And.intro @D_zdc.eq_1 <| And.intro @D_ztd.eq_1 <| And.intro @D_zpf.eq_1 <| And.intro @D_zke.eq_1 <| And.intro @D_zci.eq_1 <| @D_zvh.eq_1):=by and_intros<;>intros<;>rfl
theorem den (a0:Aid) (hb0:bdAid a0):Den Tryz.prog 104 [.agg (eAid a0)] (.bool (zcg a0)):=by
 generalize hR:zcg a0=r
 unfold zcg at hR
 refine di Tryz.func104 Tryz.ntmps104 Tryz.results104 ?_
 intro c hL hc hk
 obtain⟨hL0,_⟩:=hL
 have hw0:bwAid a0:=yxb a0 hL0
 clear hL0
 simp only[pars,Nat.zero_add]
 iterate 2 refine rS ?_
 refine AWP.ret ?_
 subst hR
 exact es
end N104
def D_zcg : DF
 | [x0]=>some (.bool (zcg (rdG dAid x0)),false,[wG eAid dAid x0,bdAid (rdG dAid x0)])
 | _=>none
theorem yvy:OkD Tryz.prog 104 D_zcg:=by unfold D_zcg;exact dk N104.den
end Go.Ab

namespace Go.Ab
open Go Go.Proofs
def zcc (a0:Aid):Bool:=
 (bif (((((!(zg a0.Number 1 9999)) || (!(zvd a0.Name))) || (!(zgd a0.At))) || (!(zg a0.Height 0 3000))) || (!(zie a0.Mark)))then false else(bif (zwe a0.Light)then(((a0.Sectors.length:Int) == 0) && (a0.Intensity == 0))else(bif (((!(znc a0.Light)) || (!(zg a0.Intensity 1 100000000))) || (!(zx a0.Sectors)))then false else(bif ((a0.Sectors.length:Int) == 0)then((a0.Light.Colors.length:Int) == 1)else((zwd a0.Sectors) == a0.Light.Colors)))))
namespace N98
theorem DD:DOk Tryz.prog (Go.Ab.DD [(170,dP D_zg),(195,dP D_zvd),(196,dP D_zgd),(197,dP D_zie),(198,dP D_zwe),(199,dP D_znc),(200,dP D_zx),(201,dP D_zwd)]):=ya yrd.e <| ya yd5.e <| ya yzx.e <| ya ye8.e <| ya yk6.e <| ya yhw.e <| ya y70.e <| ya y74.e <| yc _
theorem dn:type_of% (And.intro @D_zg.eq_1 <| And.intro @D_zvd.eq_1 <| And.intro @D_zgd.eq_1 <| And.intro @D_zie.eq_1 <| And.intro @D_zwe.eq_1 <| And.intro @D_znc.eq_1 <| And.intro @D_zx.eq_1 <| @D_zwd.eq_1):=by and_intros<;>intros<;>rfl
theorem ol:type_of% (@zg.eq_1):=@zg.eq_1
theorem den (a0:Aid) (hb0:bdAid a0):Den Tryz.prog 98 [.ep (eAid a0)] (.bool (zcc a0)):=by
 generalize hR:zcc a0=r
 unfold zcc at hR
 refine di Tryz.func98 Tryz.ntmps98 Tryz.results98 ?_
 intro c hL hc hk
 obtain⟨hL0,_⟩:=hL
 have hw0:bwAid a0:=yxb a0 hL0
 clear hL0
 simp only[pars,Nat.zero_add]
 iterate 2 refine rS ?_
 refine AWP.cond rfl (fun hb => ?_) (fun hb => ?_)
 ·replace hR:=ct hR
  refine rS ?_
  refine AWP.ret ?_
  subst hR
  exact es
 ·replace hR:=cf hR
  refine rS ?_
  refine AWP.cond rfl (fun hb => ?_) (fun hb => ?_)
  ·replace hR:=ct hR
   refine rS ?_
   refine AWP.ret ?_
   subst hR
   exact es
  ·replace hR:=cf hR
   refine rS ?_
   refine AWP.cond rfl (fun hb => ?_) (fun hb => ?_)
   ·replace hR:=ct hR
    refine rS ?_
    refine AWP.ret ?_
    subst hR
    exact es
   ·replace hR:=cf hR
    refine rS ?_
    refine AWP.cond rfl (fun hb => ?_) (fun hb => ?_)
    ·replace hR:=ct hR
     refine rS ?_
     refine AWP.ret ?_
     subst hR
     exact es
    ·replace hR:=cf hR
     refine rD 11 ?_
     refine AWP.ret ?_
     subst hR
     exact es
end N98
def D_zcc : DF
 | [x0]=>some (.bool (zcc (rdP dAid x0)),false,[wP eAid dAid x0,bdAid (rdP dAid x0)])
 | _=>none
theorem y4x:OkD Tryz.prog 98 D_zcc:=by unfold D_zcc;exact dk N98.den
end Go.Ab

namespace Go.Ab
open Go Go.Proofs
theorem y9q (c:Character) (h:zwe c=true):zab c=false:=by
 unfold zwe at h
 simp only[Bool.and_eq_true,beq_iff_eq]at h
 obtain⟨⟨⟨⟨h1,h2⟩,h3⟩,h4⟩,h5⟩:=h
 cases c
 simp only at h1 h2 h3 h4 h5
 rename_i k g l cs p
 have hg:g=[]:=List.length_eq_zero_iff.1 (by omega)
 subst h1 hg h3 h4 h5
 decide
theorem ya8 (a:Aid):zvh a=((zwe a.Light && ((a.Sectors.length:Int) == 0)) && (a.Intensity == 0)):=by
 unfold zvh zxf zwe
 rw[yvn]
 have:decide (a.Light.Group=[])=((a.Light.Group.length:Int) == 0):=by
  cases a.Light.Group with
  | nil=>rfl
  | cons x l=>simp;omega
 rw[this]
theorem y3d (a:Aid) (hl:a.Light.Colors.length<9223372036854775808) (hs:a.Sectors.length<9223372036854775807):zcg a=zcc a:=by
 unfold zcg zcc
 rw[ya8]
 unfold ztf
 rw[yyb a.Sectors hs,y9j,yld,yfab]
 have e1:ztd a.Number=zg a.Number 1 9999:=rfl
 have e2:zke a.At=zgd a.At:=rfl
 have e3:zci a.Height=zg a.Height 0 3000:=rfl
 have e4:zuh a.Intensity=zg a.Intensity 1 100000000:=rfl
 rw[e1,e2,e3,e4]
 cases hp:zwe a.Light with
 | true=>
  rw[y9q _ hp]
  simp only[Bool.not_false,Bool.true_or,cond_true,Bool.true_and,Bool.false_or]
  cases zg a.Number 1 9999<;>cases zvd a.Name<;>cases zgd a.At<;>cases zg a.Height 0 3000<;>cases zie a.Mark<;>rfl
 | false=>
  rw[ywg a.Light hl]
  simp only[Bool.false_and,Bool.or_false,cond_false]
  cases zg a.Number 1 9999<;>cases zvd a.Name<;>cases zgd a.At<;>cases zg a.Height 0 3000<;>cases zie a.Mark<;>rfl
end Go.Ab

namespace Go.Ab
open Go Go.Proofs
def InR (s:List Int):Prop:=∀ v∈s,0≤v∧v≤100
theorem InR.app {s t:List Int} (h1:InR s) (h2:InR t):InR (s++t):=fun v hv=>(List.mem_append.1 hv).elim (h1 v) (h2 v)
theorem InR.one {x:Int} (h1:0≤x) (h2:x≤100):InR [x]:=fun v hv=>by rw[List.mem_singleton]at hv;subst hv;exact⟨h1,h2⟩
theorem InR.nil:InR []:=fun v hv=>by simp at hv
theorem y32 (k:Int):0≤zif k∧zif k≤100:=by
 unfold zif
 simp only[Bool.cond_eq_ite]
 repeat' split
 all_goals omega
theorem y5v (k:Int):0≤zyc k∧zyc k≤20:=by
 unfold zyc
 simp only[Bool.cond_eq_ite]
 repeat' split
 all_goals omega
theorem yx5 (k:Int):0≤IntKind.wrap .i64 (zyc k+20)∧IntKind.wrap .i64 (zyc k+20)≤100:=by
 have:=y5v k
 rw[IntKind.wrap_i64];omega
theorem yx2 (c:Character) (h1:c.Group.length≤4) (h2:∀ v∈c.Group,1≤v∧v≤9):InR (zr c)∧(zr c).length≤80:=by
 have hf:=y32 c.Kind
 have hg:=y5v c.Kind
 have hw:=yx5 c.Kind
 unfold zr
 cases hk:(c.Kind == 8)with
 | true=>
  simp only[cond_true]
  have hm:(zgc ((c.Letter.getD 0 0).toNat:Int)).length≤4:=y1t _
  have hmr:∀ j,0≤(zgc ((c.Letter.getD 0 0).toNat:Int)).getD j default∧(zgc ((c.Letter.getD 0 0).toNat:Int)).getD j default≤100:=by
   intro j
   rw[ywh,List.getD_eq_getElem?_getD,List.getElem?_map]
   cases(ysd.getD (IntKind.wrap .u8 (((c.Letter.getD 0 0).toNat:Int)-65)).toNat default)[j]? with
   | none=>show(0:Int)≤0∧(0:Int)≤100;omega
   | some x=>simp only[Option.map_some,Option.getD_some];split<;>omega
  obtain⟨t,q1,q2,q3⟩:=yy (b:=ypt c) (fun i s=>InR s∧s.length≤2 * i) (k:=(zgc ((c.Letter.getD 0 0).toNat:Int)).length-0) (i:=0) (s:=[]) ⟨InR.nil,by simp⟩ (fun j u _ _ h=>by
   unfold ypt
   cases decide (0<(j:Int))with
   | true=>exact⟨_,rfl,(h.1.app (InR.one (by omega) (by omega))).app (InR.one (hmr j).1 (hmr j).2),by simp only[List.length_append,List.length_singleton];omega⟩
   | false=>exact⟨_,rfl,h.1.app (InR.one (hmr j).1 (hmr j).2),by simp only[List.length_append,List.length_singleton];omega⟩)
  rw[q1]
  exact⟨q2,by simp only;omega⟩
 | false=>
  simp only[cond_false]
  have hend:∀ s:List Int,InR s→s.length≤72→InR (bif (c.Letter == [76])then s++[zyc c.Kind,20]else s)∧(bif (c.Letter == [76])then s++[zyc c.Kind,20]else s).length≤80:=by
   intro s h3 h4
   cases(c.Letter == [76])with
   | true=>exact⟨h3.app (fun v hv=>by simp only[List.mem_cons,List.not_mem_nil,or_false]at hv;rcases hv with h|h<;>subst h<;>omega),by simp only[cond_true,List.length_append,List.length_cons,List.length_nil];omega⟩
   | false=>exact⟨h3,by simp only[cond_false];omega⟩
  cases hz:((c.Group.length:Int) == 0)with
  | true=>
   simp only[cond_true]
   obtain⟨t,q1,q2,q3⟩:=yy (b:=yat c) (fun i s=>InR s∧s.length≤18 * i) (k:=1-0) (i:=0) (s:=[]) ⟨InR.nil,by simp⟩ (fun j u _ hj h=>by
    unfold yat
    have hj0:j=0:=by omega
    obtain⟨t,q1,q2,q3⟩:=yy (b:=ybt c j u) (fun i s=>InR s∧s.length≤18 * j+2 * i) (k:=(([1]:List Int).getD j default).toNat-0) (i:=0) (s:=u) ⟨h.1,by omega⟩ (fun i w _ hi h=>by
     unfold ybt
     cases decide (0<(i:Int))with
     | true=>exact⟨_,rfl,(h.1.app (InR.one hg.1 (by omega))).app (InR.one hf.1 hf.2),by simp only[List.length_append,List.length_singleton];omega⟩
     | false=>
      cases decide (0<(j:Int))with
      | true=>exact⟨_,rfl,(h.1.app (InR.one hw.1 hw.2)).app (InR.one hf.1 hf.2),by simp only[List.length_append,List.length_singleton];omega⟩
      | false=>exact⟨_,rfl,h.1.app (InR.one hf.1 hf.2),by simp only[List.length_append,List.length_singleton];omega⟩)
    rw[q1]
    subst hj0
    exact⟨t,rfl,q2,by simp only[List.getD_cons_zero]at q3;omega⟩)
   rw[q1]
   exact hend t q2 (by omega)
  | false=>
   simp only[cond_false]
   obtain⟨t,q1,q2,q3⟩:=yy (b:=y6s c) (fun i s=>InR s∧s.length≤18 * i) (k:=c.Group.length-0) (i:=0) (s:=[]) ⟨InR.nil,by simp⟩ (fun j u _ hj h=>by
    unfold y6s
    have hgj:=ydh h2 j
    obtain⟨t,q1,q2,q3⟩:=yy (b:=yjs c j u) (fun i s=>InR s∧s.length≤18 * j+2 * i) (k:=(c.Group.getD j default).toNat-0) (i:=0) (s:=u) ⟨h.1,by omega⟩ (fun i w _ hi h=>by
     unfold yjs
     cases decide (0<(i:Int))with
     | true=>exact⟨_,rfl,(h.1.app (InR.one hg.1 (by omega))).app (InR.one hf.1 hf.2),by simp only[List.length_append,List.length_singleton];omega⟩
     | false=>
      cases decide (0<(j:Int))with
      | true=>exact⟨_,rfl,(h.1.app (InR.one hw.1 hw.2)).app (InR.one hf.1 hf.2),by simp only[List.length_append,List.length_singleton];omega⟩
      | false=>exact⟨_,rfl,h.1.app (InR.one hf.1 hf.2),by simp only[List.length_append,List.length_singleton];omega⟩)
    rw[q1]
    exact⟨t,rfl,q2,by omega⟩)
   rw[q1]
   exact hend t q2 (by omega)
theorem yf4 (l:List Int) (h:InR l) (hl:l.length≤80):0≤zef l∧zef l≤8000:=by
 unfold zef
 obtain⟨t,q1,q2,q3⟩:=yy (b:=y9t l) (fun i s=>0≤s∧s≤100 * i) (k:=l.length-0) (i:=0) (s:=0) ⟨by omega,by omega⟩ (fun j u _ hj hI=>by
  have hx:0≤l.getD j default∧l.getD j default≤100:=by
   rw[List.getD_eq_getElem?_getD,List.getElem?_eq_getElem (by omega),Option.getD_some]
   exact h _ (List.getElem_mem _)
  refine⟨_,rfl,?_⟩
  rw[IntKind.wrap_i64];omega)
 rw[q1]
 exact⟨q2,by simp only;omega⟩
theorem yr1 (c:Character) (h:zqb c=true) (hs:zhe c=false):0<zzg c:=by
 obtain⟨g1,g2⟩:=yhe c h
 obtain⟨t1,t2⟩:=yx2 c g1 g2
 have t3:=yf4 _ t1 t2
 have hg:=y5v c.Kind
 unfold zzg
 rw[← ycm,hs]
 simp only[cond_false]
 cases(c.Kind == 3)with
 | true=>simp
 | false=>
  simp only[cond_false]
  have hr:0<zwg c∧zwg c≤100:=by
   unfold zwg
   simp only[Bool.cond_eq_ite]
   repeat' split
   all_goals (try rw[IntKind.wrap_i64]);(try rw[IntKind.wrap_i64]);omega
  rw[IntKind.wrap_i64];omega
end Go.Ab

namespace Go.Ab
open Go Go.Proofs
theorem y9y (k:Int):(zdd k).length≤3:=by
 unfold zdd zkb
 simp only[Bool.cond_eq_ite]
 split
 ·simp
 ·rw[List.getD_eq_getElem?_getD]
  have h:∀ x∈([[],[70],[79,99],[73,115,111],[70,108],[76,70,108],[81],[86,81],[77,111]]:List (List UInt8)),x.length≤3:=by decide
  cases hg:([[],[70],[79,99],[73,115,111],[70,108],[76,70,108],[81],[86,81],[77,111]]:List (List UInt8))[k.toNat]? with
  | none=>show(0:Nat)≤3;omega
  | some x=>exact h x (List.mem_of_getElem? hg)
end Go.Ab

namespace Go.Ab
open Go Go.Proofs
theorem yen (xs:List (List UInt8)) (h:∀ v∈xs,v.length≤20):(zpb xs [43]).length≤21 * xs.length∧(Go.Lib.join xs [43]).length≤21 * xs.length:=by
 have h1:=yqi [43] xs 20 h
 simp only[List.length_singleton]at h1
 exact⟨by show(Go.Lib.join xs [43]).length≤_;omega,by omega⟩
end Go.Ab

namespace Go.Ab
open Go Go.Proofs
def ypo (a0:Character) (i1:Nat) (s1:List (List UInt8)):Except ((List UInt8)) (List (List UInt8)):=
 .ok (s1++[(zl (a0.Group.getD i1 default))])
def zre (a0:Character):(List UInt8):=
 (bif (a0.Kind == 8)then(((zdd a0.Kind)++[40])++a0.Letter)++[41]else(bif decide (0<(a0.Group.length:Int))then(match ye (ypo a0) (a0.Group.length-0) 0 ([]:List (List UInt8))with|.error e=>e|.ok s1=>(bif (a0.Letter != [])then((zdd a0.Kind)++(([40]++(zpb s1 [43]))++[41]))++[43,76,70,108]else(zdd a0.Kind)++(([40]++(zpb s1 [43]))++[41])))else(bif (a0.Letter != [])then(zdd a0.Kind)++[43,76,70,108]else(zdd a0.Kind))))
namespace N217
theorem DD:DOk Tryz.prog (Go.Ab.DD [(107,dP D_zl),(263,dP D_zdd),(83,dP D_zpb)]):=ya yxe.e <| ya ywy.e <| ya yah.e <| yc _
theorem dn:type_of% (And.intro @D_zl.eq_1 <| And.intro @D_zdd.eq_1 <| @D_zpb.eq_1):=by and_intros<;>intros<;>rfl
theorem gr {p:Prop} (h:p:=by(grind [ycc]);first|done|fail):p:=h
theorem o0 {p:Prop} (h:p:=by(first|(have h9:=yen s1 (by first|exact hW1|exact hW1.2);first|omega|(simp only[ob,ln,List.length_singleton,List.length_append,List.length_cons,List.length_nil]at *;omega)|(and_intros<;>first|omega|(simp only[ob,ln,List.length_singleton,List.length_append,List.length_cons,List.length_nil]at *;omega)))|(have h9:=hg9 i1;and_intros<;>omega)|(simp only[ob,ln,List.length_singleton,List.length_append,List.length_cons,List.length_nil]at *;omega));first|done|fail):p:=h
theorem o1 {p:Prop} (h:p:=by(first|(have h9:=yen s1 hW1.2;have h8:=hW1.1;simp only[ob,ln,List.length_singleton,List.length_append,List.length_cons,List.length_nil]at *;omega)|(have h9:=hg9 i1;omega));first|done|fail):p:=h
set_option maxHeartbeats 1000000 in
set_option maxRecDepth 20000 in
theorem den (a0:Character) (hb0:bdCharacter a0) (hp0:a0.Group.length≤4) (hp1:∀ v∈a0.Group,1≤v∧v≤9):Den Tryz.prog 217 [.agg (yg a0)] (.str (zre a0)):=by
 generalize hR:zre a0=r
 unfold zre at hR
 refine di Tryz.func217 Tryz.ntmps217 Tryz.results217 ?_
 intro c hL hc hk
 obtain⟨hL0,_⟩:=hL
 have hw0:bwCharacter a0:=yn a0 hL0
 clear hL0
 simp only[pars,Nat.zero_add]
 have hg9:∀ i:Nat,0≤a0.Group.getD i default∧a0.Group.getD i default≤9:=fun i=>ydh hp1 i
 have hk9:=y9y a0.Kind
 iterate 3 refine rS ?_
 refine AWP.cond rfl (fun hb => ?_) (fun hb => ?_)
 ·replace hR:=ct hR
  refine rS ?_
  refine AWP.ret ?_
  subst hR
  exact es
 ·replace hR:=cf hR
  refine rS ?_
  refine AWP.cond rfl (fun hb => ?_) (fun hb => ?_)
  ·replace hR:=ct hR
   iterate 2 refine rS ?_
   refine AWP.block ?_
   refine AWP.lensS 20 rfl (fun hLn1 => ?_)
   generalize hz1:ye (ypo a0) (a0.Group.length-0) 0 ([]:List (List UInt8))=z1 at hR
   refine AWP.range (ypo a0) (fun i1 s1=>⟨[(1,.ptr 0 0),(3,.str (zdd a0.Kind)),(4,.ref 1 1 0 s1.length),(25,encL 1 yr a0.Group),(26,.int .i64 (a0.Group.length:Int)),(27,.int .i64 (i1:Int))],[.box [.int .i64 a0.Kind,encL 1 yr a0.Group,.str a0.Letter,.str a0.Colors,.int .i64 a0.Period],.arr 9 1 s1.length (fun j=>eS (s1.getD j default))]⟩) (fun i1 s1=>s1.length≤([]:List (List UInt8)).length+1 * i1∧∀ v∈s1,v.length≤20) (a0.Group.length) 0 ([]:List (List UInt8)) [0,1] hz1 ot wt sm ?_
   clear hz1
   intro i1 s1 hi1 hW1 hz1
   refine rS ?_
   refine AWP.seq ?_
   refine AWP.cond rfl (fun hb => ?_) (fun hb => ?_)
   ·have hlt1:i1<a0.Group.length:=ot
    rw[yj hlt1]at hz1;simp only[ypo]at hz1
    iterate 3 refine rS ?_
    exact⟨_,[0,3],hlt1,by(and_intros<;>first|(simp only[ln,List.length_append,List.length_singleton,List.length_nil]at *;omega)|(intro v hv;exact(List.mem_append.1 hv).elim (fun h=>by first|exact hW1 v h|exact hW1.2 v h|exact hW1.2.2 v h) (fun h=>by rw[List.mem_singleton]at h;subst h;exact y7d _ (by have:=hg9 i1;omega) (by have:=hg9 i1;omega)))),hz1,sm⟩
   ·obtain rfl:i1=a0.Group.length:=ot
    rw[yi (Nat.le_refl _)]at hz1;subst hz1;dsimp only at hR
    refine AWP.exit ?_;refine yb ?_
    iterate 2 refine rS ?_
    refine AWP.cond rfl (fun hb => ?_) (fun hb => ?_)
    ·replace hR:=ct hR
     iterate 2 refine rS ?_
     refine AWP.ret ?_
     subst hR
     exact es
    ·replace hR:=cf hR
     refine rS ?_
     refine AWP.ret ?_
     subst hR
     exact es
  ·replace hR:=cf hR
   refine rS ?_
   refine AWP.cond rfl (fun hb => ?_) (fun hb => ?_)
   ·replace hR:=ct hR
    iterate 2 refine rS ?_
    refine AWP.ret ?_
    subst hR
    exact es
   ·replace hR:=cf hR
    refine rS ?_
    refine AWP.ret ?_
    subst hR
    exact es
end N217
def D_zre : DF
 | [x0]=>some (.str (zre (rdG yd x0)),false,[wG yg yd x0,bdCharacter (rdG yd x0),(rdG yd x0).Group.length≤4,∀ v∈(rdG yd x0).Group,1≤v∧v≤9])
 | _=>none
theorem yz7:OkD Tryz.prog 217 D_zre:=by unfold D_zre;exact dk N217.den
end Go.Ab

namespace Go.Ab
open Go Go.Proofs
def zjf (a0:Int):(List UInt8):=
 (bif ((a0.tmod 10) == 0)then(zl (IntKind.wrap .i64 (a0.tdiv 10)))else((zl (IntKind.wrap .i64 (a0.tdiv 10)))++[46])++(zl (a0.tmod 10)))
namespace N218
theorem DD:DOk Tryz.prog (Go.Ab.DD [(107,dP D_zl)]):=ya yxe.e <| yc _
theorem dn:type_of% (@D_zl.eq_1):=by and_intros<;>intros<;>rfl
theorem gr {p:Prop} (h:p:=by(grind [ycc]);first|done|fail):p:=h
set_option maxHeartbeats 400000 in
set_option maxRecDepth 20000 in
theorem den (a0:Int) (hp0 : -9223372036854775808≤a0) (hp1:a0≤9223372036854775807):Den Tryz.prog 218 [.int .i64 a0] (.str (zjf a0)):=by
 generalize hR:zjf a0=r
 unfold zjf at hR
 refine di Tryz.func218 Tryz.ntmps218 Tryz.results218 ?_
 intro c hL hc hk
 clear hL
 simp only[pars,Nat.zero_add]
 have h1:=yqo (a0.tdiv 10)
 have ht:=y5k a0
 have h2:=y7d (a0.tmod 10) (by omega) (by omega)
 iterate 2 refine rS ?_
 refine AWP.cond rfl (fun hb => ?_) (fun hb => ?_)
 ·replace hR:=ct hR
  refine rS ?_
  refine AWP.ret ?_
  subst hR
  exact es
 ·replace hR:=cf hR
  refine rS ?_
  refine AWP.ret ?_
  subst hR
  exact es
end N218
def D_zjf : DF
 | [x0]=>some (.str (zjf (rdI x0)),false,[wI .i64 x0,-9223372036854775808≤(rdI x0),(rdI x0)≤9223372036854775807])
 | _=>none
theorem ykw:OkD Tryz.prog 218 D_zjf:=by unfold D_zjf;exact dk N218.den
end Go.Ab

namespace Go.Ab
open Go Go.Proofs
theorem yic (a:Character) (h:zab a=true):zqb a=true:=by
 unfold zab at h
 cases hf:zqb a with
 | true=>rfl
 | false=>rw[hf]at h;simp at h
theorem yv6 (a:Character) (h:zab a=true):a.Period≤600:=by
 unfold zab at h
 cases h1:((!(zqc a.Colors)) || (!(zqb a)))with
 | true=>rw[h1]at h;cases h
 | false=>
  rw[h1]at h
  cases h2:zhe a with
  | true=>rw[h2]at h;simp at h;omega
  | false=>rw[h2]at h;simp[ze]at h;omega
theorem yjd (a:Character) (h:zab a=true):a.Group.length≤4∧(∀ v∈a.Group,1≤v∧v≤9)∧a.Period≤600:=by
 have h1:=yhe a (yic a h)
 exact⟨h1.1,h1.2,yv6 a h⟩
theorem yts (a:Character) (h1:a.Group.length≤4) (h2:∀ v∈a.Group,1≤v∧v≤9):(zre a).length≤200+a.Letter.length:=by
 unfold zre
 have hk:=y9y a.Kind
 obtain⟨t,q1,q2,q3⟩:=yy (b:=ypo a) (fun i s=>s.length=i∧∀ v∈s,v.length≤20) (k:=a.Group.length-0) (i:=0) (s:=[]) ⟨rfl,by simp⟩ (fun j u _ _ h=>⟨_,rfl,by simp[h.1],fun v hv=>by
  rcases List.mem_append.1 hv with h9|h9
  ·exact h.2 v h9
  ·rw[List.mem_singleton]at h9;subst h9
   have:=ydh h2 j
   exact y7d _ (by omega) (by omega)⟩)
 rw[q1]
 have hj:=(yen t q3).1
 simp only[Bool.cond_eq_ite]
 repeat' split
 all_goals ((try simp only[List.length_append,List.length_cons,List.length_nil]);omega)
theorem yfs (a:Character) (h:zab a=true):(zhe a=true∧a.Period=0)∨(zhe a=false∧0<a.Period∧a.Period≤600):=by
 have hf:=yic a h
 unfold zab at h
 cases h1:((!(zqc a.Colors)) || (!(zqb a)))with
 | true=>rw[h1]at h;cases h
 | false=>
  rw[h1]at h
  cases h2:zhe a with
  | true=>rw[h2]at h;left;simpa using h
  | false=>
   rw[h2,yty a hf h2]at h
   have:=yr1 a hf h2
   right
   simp[ze]at h
   exact⟨rfl,by omega,by omega⟩
theorem ybe (a:Character) (h:zab a=true):0≤a.Period:=by
 rcases yfs a h with⟨_,h⟩|⟨_,h,_⟩<;>omega
theorem yie (a:Character) (h:zqb a=true):1≤a.Kind∧a.Kind≤8:=by
 unfold zqb at h
 simp only[Bool.cond_eq_ite]at h
 repeat' split at h
 all_goals (try simp only[beq_iff_eq]at *)
 all_goals first|omega|(cases h;done)
theorem ye1 (a:Character) (hl:a.Colors.length<9223372036854775808) (h:znc a=true):a.Group.length≤4∧(∀ v∈a.Group,1≤v∧v≤9)∧1≤a.Kind∧a.Kind≤8∧0≤a.Period∧a.Period≤600:=by
 rw[← ywg a hl]at h
 have h1:=yjd a h
 have h2:=yie a (yic a h)
 exact⟨h1.1,h1.2.1,h2.1,h2.2,ybe a h,h1.2.2⟩
theorem ycv (n:Int) (h1 : -9223372036854775808≤n) (h2:n≤9223372036854775807):(zjf n).length≤41:=by
 unfold zjf
 have h3:=yqo (n.tdiv 10)
 have ht:=y5k n
 have h4:=y7d (n.tmod 10) (by omega) (by omega)
 simp only[Bool.cond_eq_ite]
 split
 ·omega
 ·simp only[List.length_append,List.length_cons,List.length_nil];omega
end Go.Ab
