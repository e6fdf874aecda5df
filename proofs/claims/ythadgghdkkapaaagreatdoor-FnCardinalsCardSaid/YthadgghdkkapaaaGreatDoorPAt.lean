/- A part of a proof: walks of functions and lemmas of our own. No conditions. -/
import Derived.Test.YthadgghdkkapaaaGreatDoorPAl
import Derived.Test.YthadgghdkkapaaaGreatDoorPAs
import Derived.Test.YthadgghdkkapaaaGreatDoorPAn
set_option linter.unusedSectionVars false
set_option linter.unusedVariables false
set_option linter.unusedSimpArgs false
set_option maxHeartbeats 1000000
namespace Go.Ab
open Go Go.Proofs
def yur (a0:Character) (i1:Nat) (s1:List Int):Except ((List Int)) (List Int):=
 (bif decide (0<(i1:Int))then .ok ((s1++([5]:List Int))++([((zsb ((a0.Letter.getD 0 0).toNat:Int)).getD i1 default)]:List Int))else .ok (s1++([((zsb ((a0.Letter.getD 0 0).toNat:Int)).getD i1 default)]:List Int)))
def ycr (a0:Character) (i2:Nat) (s2:List Int) (i3:Nat) (s3:List Int):Except ((List Int)) (List Int):=
 (bif decide (0<(i3:Int))then .ok ((s3++([(zzc a0.Kind)]:List Int))++([(zce a0.Kind)]:List Int))else(bif decide (0<(i2:Int))then .ok ((s3++([IntKind.wrap .i64 ((zzc a0.Kind)+20)]:List Int))++([(zce a0.Kind)]:List Int))else .ok (s3++([(zce a0.Kind)]:List Int))))
def ybs (a0:Character) (i2:Nat) (s2:List Int):Except ((List Int)) (List Int):=
 (match yh (ycr a0 i2 s2) (((([1]:List Int).getD i2 default)).toNat-0) 0 s2 with|.error e=>.error e|.ok s3=>.ok s3)
def ypr (a0:Character) (i4:Nat) (s4:List Int) (i5:Nat) (s5:List Int):Except ((List Int)) (List Int):=
 (bif decide (0<(i5:Int))then .ok ((s5++([(zzc a0.Kind)]:List Int))++([(zce a0.Kind)]:List Int))else(bif decide (0<(i4:Int))then .ok ((s5++([IntKind.wrap .i64 ((zzc a0.Kind)+20)]:List Int))++([(zce a0.Kind)]:List Int))else .ok (s5++([(zce a0.Kind)]:List Int))))
def yyr (a0:Character) (i4:Nat) (s4:List Int):Except ((List Int)) (List Int):=
 (match yh (ypr a0 i4 s4) (((a0.Group.getD i4 default)).toNat-0) 0 s4 with|.error e=>.error e|.ok s5=>.ok s5)
def zw (a0:Character):(List Int):=
 (bif (a0.Kind == 8)then(match yh (yur a0) (((zsb ((a0.Letter.getD 0 0).toNat:Int)).length)-0) 0 ([]:List Int)with|.error e=>e|.ok s1=>s1)else(bif ((a0.Group.length:Int) == 0)then(match yh (ybs a0) (1-0) 0 ([]:List Int)with|.error e=>e|.ok s2=>(bif (a0.Letter == [76])then s2++([(zzc a0.Kind),20]:List Int)else s2))else(match yh (yyr a0) (a0.Group.length-0) 0 ([]:List Int)with|.error e=>e|.ok s4=>(bif (a0.Letter == [76])then s4++([(zzc a0.Kind),20]:List Int)else s4))))
namespace N228
theorem DD:DOk Tryz.prog (Go.Ab.DD [(233,dP D_zzc),(271,dP D_zsb),(272,dP D_zce)]):=ya yup.e <| ya yhw.e <| ya ywu.e <| yb _
theorem dn:type_of% (And.intro @D_zzc.eq_1 <| And.intro @D_zsb.eq_1 <| @D_zce.eq_1):=by and_intros<;>intros<;>rfl
theorem o2 {p:Prop} (h:p:=by(first|(and_intros<;>first|decide|omega|(simp;(first|done|fail))|(rw[IntKind.wrap_i64];have:=hg9 i4;omega)|(rw[IntKind.wrap_i64];have:=hg1 i2;omega)|(rw[IntKind.wrap_i64];omega)|(intro i hi;exact ybl _ _ i hi)|(intro i hi;exact yhn _ _ _ i hi)));first|done|fail):p:=h
theorem o3 {p:Prop} (h:p:=by(first|(refine⟨⟨Nat.le_refl _,fun i hi=>yqm _ _ _ i hi⟩,.inl fun i hi=>by rw[ych _ _ _ i hi];simp[NoBorL,NoBor],by simp,fun i hi=>by rw[ych _ _ _ i hi];exact y9 _⟩));first|done|fail):p:=h
theorem lx {p:Prop} (h:p:=by(exact lxx);first|done|fail):p:=h
set_option maxHeartbeats 1000000 in
set_option maxRecDepth 20000 in
theorem den (a0:Character) (hb0:bdCharacter a0) (hp0:a0.Group.length<=4) (hp1:∀ v∈a0.Group,v<=9) (hp2:a0.Kind=8->a0.Letter.length=1/\65<=(a0.Letter.getD 0 0).toNat/\(a0.Letter.getD 0 0).toNat<=90):Den Tryz.prog 228 [.ep (ym a0)] (ownL 2 1 yq (zw a0)):=by
 generalize hR:zw a0=r;unfold zw at hR;refine di Tryz.func228 Tryz.ntmps228 Tryz.results228 ?_;intro c hL hc hk;obtain⟨hL0,_⟩:=hL;have hw0:bwCharacter a0:=yv a0 hL0;clear hL0;simp only[pars,Nat.zero_add];have hg9:∀ i:Nat,a0.Group.getD i default<=9:=fun i=>ylk hp1 i
 have hs9:=yjt ((a0.Letter.getD 0 0).toNat:Int);have hg1:∀ i:Nat,([1]:List Int).getD i default<=9:=fun i=>ylk (by simp) i
 iterate 3 refine rS ?_
 refine AWP.cond rfl (fun hb => ?_) (fun hb => ?_)
 ·replace hR:=ct hR
  iterate 2 refine rS ?_
  refine AWP.block ?_;generalize hz1:yh (yur a0) (((zsb ((a0.Letter.getD 0 0).toNat:Int)).length)-0) 0 ([]:List Int)=z1 at hR;refine AWP.range (yur a0) (fun i1 s1=>⟨[(3,.ref 0 1 0 s1.length),(4,.ref 1 1 0 ((zsb ((a0.Letter.getD 0 0).toNat:Int)).length)),(5,.int .i64 (i1:Int))],[.arr 2 1 s1.length (fun j=>yq (s1.getD j default)),.arr 2 1 (zsb ((a0.Letter.getD 0 0).toNat:Int)).length (fun j=>yq ((zsb ((a0.Letter.getD 0 0).toNat:Int)).getD j default))]⟩) (fun i1 s1=>s1.length<=([]:List Int).length+2 * i1/\s1.length<=2 * i1) (((zsb ((a0.Letter.getD 0 0).toNat:Int)).length)) 0 ([]:List Int) [0,1] hz1 ot wt sm ?_;clear hz1;intro i1 s1 hi1 hW1 hz1;refine rS ?_;refine AWP.cond rfl (fun hb => ?_) (fun hb => ?_)
  ·have hlt1:i1<((zsb ((a0.Letter.getD 0 0).toNat:Int)).length):=ot
   rw[yn hlt1]at hz1;simp only[yur]at hz1;refine rS ?_;refine AWP.cond rfl (fun hb => ?_) (fun hb => ?_)
   ·simp only[hb,cond_true]at hz1
    iterate 3 refine rS ?_
    exact⟨_,[5,1],hlt1,wt,hz1,sm⟩
   ·simp only[hb,cond_false]at hz1
    iterate 2 refine rS ?_
    exact⟨_,[3,1],hlt1,wt,hz1,sm⟩
  ·obtain rfl:i1=((zsb ((a0.Letter.getD 0 0).toNat:Int)).length):=ot
   rw[yp (Nat.le_refl _)]at hz1;subst hz1;dsimp only at hR;refine AWP.exit ?_;refine yc ?_;refine rS ?_;refine AWP.ret ?_;subst hR;exact es
 ·replace hR:=cf hR
  iterate 2 refine rS ?_
  refine AWP.cond rfl (fun hb => ?_) (fun hb => ?_)
  ·replace hR:=ct hR
   iterate 2 refine rS ?_
   refine AWP.block ?_;generalize hz2:yh (ybs a0) (1-0) 0 ([]:List Int)=z2 at hR;refine AWP.range (ybs a0) (fun i2 s2=>⟨[(0,.ep (ym a0)),(3,.ref 0 1 0 s2.length),(6,.ref 1 1 0 1),(7,.int .i64 (i2:Int))],[.arr 2 1 s2.length (fun j=>yq (s2.getD j default)),.arr 2 1 ([1]:List Int).length (fun j=>yq (([1]:List Int).getD j default))]⟩) (fun i2 s2=>s2.length<=18 * i2) (1) 0 ([]:List Int) [0,1] hz2 ot wt sm ?_;clear hz2;intro i2 s2 hi2 hW2 hz2;refine rS ?_;refine AWP.cond rfl (fun hb => ?_) (fun hb => ?_)
   ·have hlt2:i2<1:=ot
    rw[yn hlt2]at hz2;simp only[ybs]at hz2;refine rS ?_;refine AWP.block ?_;generalize hz3:yh (ycr a0 i2 s2) (((([1]:List Int).getD i2 default)).toNat-0) 0 s2=z3 at hz2;refine AWP.range (ycr a0 i2 s2) (fun i3 s3=>⟨[(0,.ep (ym a0)),(3,.ref 0 1 0 s3.length),(6,.ref 1 1 0 1),(7,.int .i64 (i2:Int)),(8,.int .i64 (i3:Int))],[.arr 2 1 s3.length (fun j=>yq (s3.getD j default)),.arr 2 1 ([1]:List Int).length (fun j=>yq (([1]:List Int).getD j default))]⟩) (fun i3 s3=>s3.length<=s2.length+2 * i3/\s3.length<=18 * i2+2 * i3) (((([1]:List Int).getD i2 default)).toNat) 0 s2 [0,1] hz3 ot wt sm ?_;clear hz3;intro i3 s3 hi3 hW3 hz3;refine rS ?_;refine AWP.cond rfl (fun hb => ?_) (fun hb => ?_)
    ·have hlt3:i3<((([1]:List Int).getD i2 default)).toNat:=ot
     rw[yn hlt3]at hz3;simp only[ycr]at hz3;refine rS ?_;refine AWP.cond rfl (fun hb => ?_) (fun hb => ?_)
     ·simp only[hb,cond_true]at hz3
      iterate 3 refine rS ?_
      exact⟨_,[5,1],hlt3,wt,hz3,sm⟩
     ·simp only[hb,cond_false]at hz3
      refine rS ?_;refine AWP.cond rfl (fun hb => ?_) (fun hb => ?_)
      ·simp only[hb,cond_true]at hz3
       iterate 3 refine rS ?_
       exact⟨_,[5,1],hlt3,wt,hz3,sm⟩
      ·simp only[hb,cond_false]at hz3
       iterate 2 refine rS ?_
       exact⟨_,[3,1],hlt3,wt,hz3,sm⟩
    ·obtain rfl:i3=((([1]:List Int).getD i2 default)).toNat:=ot
     rw[yp (Nat.le_refl _)]at hz3;subst hz3;dsimp only at hz2;refine AWP.exit ?_;refine yc ?_;refine rS ?_;exact⟨_,[0,1],hlt2,by(have h9:=hg1 i2;omega),hz2,sm⟩
   ·obtain rfl:i2=1:=ot
    rw[yp (Nat.le_refl _)]at hz2;subst hz2;dsimp only at hR;refine AWP.exit ?_;refine yc ?_;refine rS ?_;refine AWP.cond rfl (fun hb => ?_) (fun hb => ?_)
    ·replace hR:=ct hR
     iterate 2 refine rS ?_
     refine AWP.ret ?_;subst hR;exact es
    ·replace hR:=cf hR
     refine rS ?_;refine AWP.ret ?_;subst hR;exact es
  ·replace hR:=cf hR
   refine rS ?_;refine AWP.block ?_;refine AWP.lensS 6 rfl (fun hLn4 => ?_);generalize hz4:yh (yyr a0) (a0.Group.length-0) 0 ([]:List Int)=z4 at hR;refine AWP.range (yyr a0) (fun i4 s4=>⟨[(0,.ep (ym a0)),(3,.ref 0 1 0 s4.length),(6,encL 1 yq a0.Group),(7,.int .i64 (i4:Int))],[.arr 2 1 s4.length (fun j=>yq (s4.getD j default))]⟩) (fun i4 s4=>s4.length<=18 * i4) (a0.Group.length) 0 ([]:List Int) [0] hz4 ot wt sm ?_;clear hz4;intro i4 s4 hi4 hW4 hz4;refine rS ?_;refine AWP.cond rfl (fun hb => ?_) (fun hb => ?_)
   ·have hlt4:i4<a0.Group.length:=ot
    rw[yn hlt4]at hz4;simp only[yyr]at hz4;refine rS ?_;refine AWP.block ?_;generalize hz5:yh (ypr a0 i4 s4) (((a0.Group.getD i4 default)).toNat-0) 0 s4=z5 at hz4;refine AWP.range (ypr a0 i4 s4) (fun i5 s5=>⟨[(0,.ep (ym a0)),(3,.ref 0 1 0 s5.length),(6,encL 1 yq a0.Group),(7,.int .i64 (i4:Int)),(8,.int .i64 (i5:Int))],[.arr 2 1 s5.length (fun j=>yq (s5.getD j default))]⟩) (fun i5 s5=>s5.length<=s4.length+2 * i5/\s5.length<=18 * i4+2 * i5) (((a0.Group.getD i4 default)).toNat) 0 s4 [0] hz5 ot wt sm ?_;clear hz5;intro i5 s5 hi5 hW5 hz5;refine rS ?_;refine AWP.cond rfl (fun hb => ?_) (fun hb => ?_)
    ·have hlt5:i5<((a0.Group.getD i4 default)).toNat:=ot
     rw[yn hlt5]at hz5;simp only[ypr]at hz5;refine rS ?_;refine AWP.cond rfl (fun hb => ?_) (fun hb => ?_)
     ·simp only[hb,cond_true]at hz5
      iterate 3 refine rS ?_
      exact⟨_,[4],hlt5,wt,hz5,sm⟩
     ·simp only[hb,cond_false]at hz5
      refine rS ?_;refine AWP.cond rfl (fun hb => ?_) (fun hb => ?_)
      ·simp only[hb,cond_true]at hz5
       iterate 3 refine rS ?_
       exact⟨_,[4],hlt5,wt,hz5,sm⟩
      ·simp only[hb,cond_false]at hz5
       iterate 2 refine rS ?_
       exact⟨_,[2],hlt5,wt,hz5,sm⟩
    ·obtain rfl:i5=((a0.Group.getD i4 default)).toNat:=ot
     rw[yp (Nat.le_refl _)]at hz5;subst hz5;dsimp only at hz4;refine AWP.exit ?_;refine yc ?_;refine rS ?_;exact⟨_,[0],hlt4,by(have h9:=hg9 i4;omega),hz4,sm⟩
   ·obtain rfl:i4=a0.Group.length:=ot
    rw[yp (Nat.le_refl _)]at hz4;subst hz4;dsimp only at hR;refine AWP.exit ?_;refine yc ?_;refine rS ?_;refine AWP.cond rfl (fun hb => ?_) (fun hb => ?_)
    ·replace hR:=ct hR
     iterate 2 refine rS ?_
     refine AWP.ret ?_;subst hR;exact es
    ·replace hR:=cf hR
     refine rS ?_;refine AWP.ret ?_;subst hR;exact es
end N228
def D_zw : DF
 | [x0]=>some (ownL 2 1 yq (zw (rdP ye x0)),false,[wP ym ye x0,bdCharacter (rdP ye x0),(rdP ye x0).Group.length<=4,∀ v∈(rdP ye x0).Group,v<=9,(rdP ye x0).Kind=8->(rdP ye x0).Letter.length=1/\65<=((rdP ye x0).Letter.getD 0 0).toNat/\((rdP ye x0).Letter.getD 0 0).toNat<=90])
 | _=>none
theorem ytz:OkD Tryz.prog 228 D_zw:=by unfold D_zw;exact dk N228.den
def znf (a0:Character):Int:=
 (bif (a0.Kind == 6)then 20 else(bif (a0.Kind == 7)then 10 else(bif (a0.Kind == 8)then 30 else(bif decide (1<(a0.Group.length:Int))then IntKind.wrap .i64 ((IntKind.wrap .i64 ((zzc a0.Kind)+5))+20)else IntKind.wrap .i64 ((zzc a0.Kind)+5)))))
namespace N229
theorem DD:DOk Tryz.prog (Go.Ab.DD [(233,dP D_zzc)]):=ya yup.e <| yb _
theorem dn:type_of% (@D_zzc.eq_1):=by and_intros<;>intros<;>rfl
theorem den (a0:Character)  : Den Tryz.prog 229 [.ep (ym a0)] (.int .i64 (znf a0)):=by
 generalize hR:znf a0=r;unfold znf at hR;refine di Tryz.func229 Tryz.ntmps229 Tryz.results229 ?_;intro c hL hc hk;obtain⟨hL0,_⟩:=hL;have hw0:bwCharacter a0:=yv a0 hL0;clear hL0;simp only[pars,Nat.zero_add];iterate 3 refine rS ?_
 refine AWP.cond rfl (fun hb => ?_) (fun hb => ?_)
 ·replace hR:=ct hR
  refine rS ?_;refine AWP.ret ?_;subst hR;exact es
 ·replace hR:=cf hR
  refine rS ?_;refine AWP.cond rfl (fun hb => ?_) (fun hb => ?_)
  ·replace hR:=ct hR
   refine rS ?_;refine AWP.ret ?_;subst hR;exact es
  ·replace hR:=cf hR
   refine rS ?_;refine AWP.cond rfl (fun hb => ?_) (fun hb => ?_)
   ·replace hR:=ct hR
    refine rS ?_;refine AWP.ret ?_;subst hR;exact es
   ·replace hR:=cf hR
    iterate 2 refine rS ?_
    refine AWP.cond rfl (fun hb => ?_) (fun hb => ?_)
    ·replace hR:=ct hR
     iterate 2 refine rS ?_
     refine AWP.ret ?_;subst hR;exact es
    ·replace hR:=cf hR
     refine rS ?_;refine AWP.ret ?_;subst hR;exact es
end N229
def D_znf : DF
 | [x0]=>some (.int .i64 (znf (rdP ye x0)),false,[wP ym ye x0])
 | _=>none
theorem yzw:OkD Tryz.prog 229 D_znf:=by unfold D_znf;exact dk N229.den
def zj (a0:Character):Int:=
 (bif (zz a0)then 0 else(bif (a0.Kind == 3)then 20 else IntKind.wrap .i64 ((zbe (zw a0))+(znf a0))))
namespace N171
theorem DD:DOk Tryz.prog (Go.Ab.DD [(170,dP D_zz),(227,dP D_zbe),(228,dP D_zw),(229,dP D_znf)]):=ya ylo.e <| ya ygx.e <| ya ytz.e <| ya yzw.e <| yb _
theorem dn:type_of% (And.intro @D_zz.eq_1 <| And.intro @D_zbe.eq_1 <| And.intro @D_zw.eq_1 <| @D_znf.eq_1):=by and_intros<;>intros<;>rfl
theorem den (a0:Character) (hb0:bdCharacter a0) (hp0:a0.Group.length<=4) (hp1:∀ v∈a0.Group,v<=9) (hp2:a0.Kind=8->a0.Letter.length=1/\65<=(a0.Letter.getD 0 0).toNat/\(a0.Letter.getD 0 0).toNat<=90):Den Tryz.prog 171 [.ep (ym a0)] (.int .i64 (zj a0)):=by
 generalize hR:zj a0=r;unfold zj at hR;refine di Tryz.func171 Tryz.ntmps171 Tryz.results171 ?_;intro c hL hc hk;obtain⟨hL0,_⟩:=hL;have hw0:bwCharacter a0:=yv a0 hL0;clear hL0;simp only[pars,Nat.zero_add];iterate 2 refine rS ?_
 refine AWP.cond rfl (fun hb => ?_) (fun hb => ?_)
 ·replace hR:=ct hR
  refine rS ?_;refine AWP.ret ?_;subst hR;exact es
 ·replace hR:=cf hR
  refine rS ?_;refine AWP.cond rfl (fun hb => ?_) (fun hb => ?_)
  ·replace hR:=ct hR
   refine rS ?_;refine AWP.ret ?_;subst hR;exact es
  ·replace hR:=cf hR
   refine rS ?_;refine AWP.ret ?_;subst hR;exact es
end N171
def D_zj : DF
 | [x0]=>some (.int .i64 (zj (rdP ye x0)),false,[wP ym ye x0,bdCharacter (rdP ye x0),(rdP ye x0).Group.length<=4,∀ v∈(rdP ye x0).Group,v<=9,(rdP ye x0).Kind=8->(rdP ye x0).Letter.length=1/\65<=((rdP ye x0).Letter.getD 0 0).toNat/\((rdP ye x0).Letter.getD 0 0).toNat<=90])
 | _=>none
theorem yeu:OkD Tryz.prog 171 D_zj:=by unfold D_zj;exact dk N171.den
def zoe (a0:Sector):Bool:=
 ((zf a0.From 0 359) && (zf a0.To 0 359))
namespace N230
theorem DD:DOk Tryz.prog (Go.Ab.DD [(81,dP D_zf)]):=ya yed.e <| yb _
theorem dn:type_of% (@D_zf.eq_1):=by and_intros<;>intros<;>rfl
theorem ol:type_of% (@zf.eq_1):=@zf.eq_1
theorem den (a0:Sector)  : Den Tryz.prog 230 [.ep (yw a0)] (.bool (zoe a0)):=by
 generalize hR:zoe a0=r;unfold zoe at hR;refine di Tryz.func230 Tryz.ntmps230 Tryz.results230 ?_;intro c hL hc hk;obtain⟨hL0,_⟩:=hL;have hw0:bwSector a0:=yfb a0 hL0;clear hL0;simp only[pars,Nat.zero_add];iterate 2 refine rS ?_
 refine AWP.ret ?_;subst hR;exact es
end N230
def D_zoe : DF
 | [x0]=>some (.bool (zoe (rdP y8 x0)),false,[wP yw y8 x0])
 | _=>none
theorem y2x:OkD Tryz.prog 230 D_zoe:=by unfold D_zoe;exact dk N230.den
def znd (a0:(List UInt8)):Bool:=
 ((((a0 == [87]) || (a0 == [82])) || (a0 == [71])) || (a0 == [89]))
namespace N231
theorem DD:DOk Tryz.prog (Go.Ab.DD []):=yb _
theorem den (a0:(List UInt8))  : Den Tryz.prog 231 [.str a0] (.bool (znd a0)):=by
 generalize hR:znd a0=r;unfold znd at hR;refine di Tryz.func231 Tryz.ntmps231 Tryz.results231 ?_;intro c hL hc hk;obtain⟨hL0,_⟩:=hL;have hw0:a0.length<9223372036854775808:=Nat.lt_succ_of_le hL0;clear hL0;simp only[pars,Nat.zero_add];iterate 2 refine rS ?_
 refine AWP.ret ?_;subst hR;exact es
end N231
def D_znd : DF
 | [x0]=>some (.bool (znd (rdS x0)),false,[wS x0])
 | _=>none
theorem yew:OkD Tryz.prog 231 D_znd:=by unfold D_znd;exact dk N231.den
def zyb (a0:Sector):Bool:=
 ((zoe a0) && (znd a0.Color))
namespace N172
theorem DD:DOk Tryz.prog (Go.Ab.DD [(230,dP D_zoe),(231,dP D_znd)]):=ya y2x.e <| ya yew.e <| yb _
theorem dn:type_of% (And.intro @D_zoe.eq_1 <| @D_znd.eq_1):=by and_intros<;>intros<;>rfl
theorem den (a0:Sector)  : Den Tryz.prog 172 [.ep (yw a0)] (.bool (zyb a0)):=by
 generalize hR:zyb a0=r;unfold zyb at hR;refine di Tryz.func172 Tryz.ntmps172 Tryz.results172 ?_;intro c hL hc hk;obtain⟨hL0,_⟩:=hL;have hw0:bwSector a0:=yfb a0 hL0;clear hL0;simp only[pars,Nat.zero_add];iterate 2 refine rS ?_
 refine AWP.ret ?_;subst hR;exact es
end N172
def D_zyb : DF
 | [x0]=>some (.bool (zyb (rdP y8 x0)),false,[wP yw y8 x0])
 | _=>none
theorem y8w:OkD Tryz.prog 172 D_zyb:=by unfold D_zyb;exact dk N172.den
def zgf (a0:Sector):Int:=
 (bif (((IntKind.wrap .i64 ((IntKind.wrap .i64 (a0.To-a0.From))+360)).tmod 360) == 0)then 360 else(IntKind.wrap .i64 ((IntKind.wrap .i64 (a0.To-a0.From))+360)).tmod 360)
namespace N173
theorem DD:DOk Tryz.prog (Go.Ab.DD []):=yb _
theorem den (a0:Sector)  : Den Tryz.prog 173 [.ep (yw a0)] (.int .i64 (zgf a0)):=by
 generalize hR:zgf a0=r;unfold zgf at hR;refine di Tryz.func173 Tryz.ntmps173 Tryz.results173 ?_;intro c hL hc hk;obtain⟨hL0,_⟩:=hL;have hw0:bwSector a0:=yfb a0 hL0;clear hL0;simp only[pars,Nat.zero_add];refine rS ?_;refine rD 11 ?_;refine rS ?_;refine AWP.cond rfl (fun hb => ?_) (fun hb => ?_)
 ·replace hR:=ct hR
  refine rS ?_;refine AWP.ret ?_;subst hR;exact es
 ·replace hR:=cf hR
  refine rS ?_;refine AWP.ret ?_;subst hR;exact es
end N173
def D_zgf : DF
 | [x0]=>some (.int .i64 (zgf (rdP y8 x0)),false,[wP yw y8 x0])
 | _=>none
theorem y5x:OkD Tryz.prog 173 D_zgf:=by unfold D_zgf;exact dk N173.den
def ysh (a0:(List Sector)) (i1:Nat) (s1:Unit):Except (Bool) (Unit):=
 (bif ((!(zyb (a0.getD i1 default))) || (decide (0<(i1:Int)) && decide (((a0.getD i1 default).From)<=((a0.getD ((IntKind.wrap .i64 ((i1:Int)-1)).toNat) default).From))))then .error false else .ok ())
def yrf (a0:(List Sector)) (s1:Unit) (s2:Int):Except (Sum (Bool) (Int)) (Int):=
 (bif (decide (s2<(a0.length:Int)) && decide (1<(a0.length:Int)))then(bif decide (((IntKind.wrap .i64 ((IntKind.wrap .i64 (((a0.getD (((IntKind.wrap .i64 (s2+1)).tmod (a0.length:Int)).toNat) default).From)-((a0.getD ((s2).toNat) default).From)))+360)).tmod 360)<(zgf (a0.getD ((s2).toNat) default)))then .error (.inl false)else .ok (IntKind.wrap .i64 (s2+1)))else .error (.inr s2))
def zab (a0:(List Sector)):Bool:=
 (bif decide (12<(a0.length:Int))then false else(match yh (ysh a0) (a0.length-0) 0 ()with|.error e=>e|.ok s1=>(match ymb (yrf a0 s1) ((a0.length-((0:Int)).toNat)+1) 0 with|.error (.inl e)=>e|.error (.inr s2)=>true|.ok _=>default)))
namespace N121
theorem DD:DOk Tryz.prog (Go.Ab.DD [(172,dP D_zyb),(173,dP D_zgf)]):=ya y8w.e <| ya y5x.e <| yb _
theorem dn:type_of% (And.intro @D_zyb.eq_1 <| @D_zgf.eq_1):=by and_intros<;>intros<;>rfl
theorem o0 {p:Prop} (h:p:=by(first|(have hb2:=hb;simp only[Bool.and_eq_true,decide_eq_true_eq]at hb2;have h9:=y00 hW2.1 hb2.1 (by omega);and_intros<;>first|omega|exact h9.1|exact h9.2));first|done|fail):p:=h
theorem den (a0:(List Sector))  : Den Tryz.prog 121 [encL 3 yw a0] (.bool (zab a0)):=by
 generalize hR:zab a0=r;unfold zab at hR;refine di Tryz.func121 Tryz.ntmps121 Tryz.results121 ?_;intro c hL hc hk;obtain⟨hL0,_⟩:=hL;have hw0:a0.length<9223372036854775808:=Nat.lt_succ_of_le (yf hL0).1;have hw1:∀ v∈a0,bwSector v:=fun v hv=>yfb v ((yf hL0).2 v hv)
 clear hL0;simp only[pars,Nat.zero_add];iterate 3 refine rS ?_
 refine AWP.cond rfl (fun hb => ?_) (fun hb => ?_)
 ·replace hR:=ct hR
  refine rS ?_;refine AWP.ret ?_;subst hR;exact es
 ·replace hR:=cf hR
  refine rS ?_;refine AWP.block ?_;generalize hz1:yh (ysh a0) (a0.length-0) 0 ()=z1 at hR;refine AWP.range (ysh a0) (fun i1 s1=>⟨[(0,encL 3 yw a0),(3,.int .i64 (a0.length:Int)),(4,.int .i64 (i1:Int))],[]⟩) (fun i1 s1=>True) (a0.length) 0 () [] hz1 ot wt sm ?_;clear hz1;intro i1 s1 hi1 hW1 hz1;refine rS ?_;refine AWP.cond rfl (fun hb => ?_) (fun hb => ?_)
  ·have hlt1:i1<a0.length:=ot
   rw[yn hlt1]at hz1;simp only[ysh]at hz1;refine rD 23 ?_;refine AWP.cond rfl (fun hb => ?_) (fun hb => ?_)
   ·simp only[hb,cond_true]at hz1
    refine rS ?_;refine AWP.ret ?_;subst hz1;dsimp only at hR;subst hR;exact es
   ·simp only[hb,cond_false]at hz1
    refine rS ?_;exact⟨_,[],hlt1,wt,hz1,sm⟩
  ·obtain rfl:i1=a0.length:=ot
   rw[yp (Nat.le_refl _)]at hz1;subst hz1;dsimp only at hR;refine AWP.exit ?_;refine yc ?_;refine rS ?_;refine AWP.block ?_;generalize hz2:ymb (yrf a0 s1) ((a0.length-((0:Int)).toNat)+1) 0=z2 at hR;refine AWP.whileW (yrf a0 s1) (fun s2=>⟨[(0,encL 3 yw a0),(3,.int .i64 (a0.length:Int)),(5,.int .i64 s2)],[]⟩) (fun s2=>0<=s2/\s2<=a0.length) (fun s2=>a0.length-(s2).toNat) ((a0.length-((0:Int)).toNat)+1) 0 [] hz2 m0 wt sm ?_;clear hz2;intro s2 k2 hW2 hm2 hz2;simp only[yrf]at hz2;refine rS ?_;refine AWP.cond rfl (fun hb => ?_) (fun hb => ?_)
   ·simp only[hb,cond_true]at hz2
    refine rD 21 ?_;refine AWP.cond rfl (fun hb => ?_) (fun hb => ?_)
    ·simp only[hb,cond_true]at hz2
     refine rS ?_;refine AWP.ret ?_;subst hz2;dsimp only at hR;subst hR;exact es
    ·simp only[hb,cond_false]at hz2
     refine rS ?_;exact⟨_,[],ms,wt,hz2,sm⟩
   ·simp only[hb,cond_false]at hz2
    refine AWP.exit ?_;refine yc ?_;subst hz2;dsimp only at hR;refine rS ?_;refine AWP.ret ?_;subst hR;exact es
end N121
def D_zab : DF
 | [x0]=>some (.bool (zab (rdL y8 x0)),false,[wL 3 yw y8 x0])
 | _=>none
theorem yev:OkD Tryz.prog 121 D_zab:=by unfold D_zab;exact dk N121.den
def yen (a0:(List Sector)) (i1:Nat) (s1:List UInt8) (i2:Nat) (s2:List UInt8):Except (Sum ((List UInt8)) (List UInt8)) (List UInt8):=
 (bif (((a0.getD i2 default).Color) == ([[87],[82],[71],[89]].getD i1 default))then .error (.inr (s2++([[87],[82],[71],[89]].getD i1 default)))else .ok s2)
def yyj (a0:(List Sector)) (i1:Nat) (s1:List UInt8):Except ((List UInt8)) (List UInt8):=
 (match yh (yen a0 i1 s1) (a0.length-0) 0 s1 with|.error (.inl e)=>.error e|.error (.inr s2)=>.ok s2|.ok s2=>.ok s2)
def zbb (a0:(List Sector)):(List UInt8):=
 (match yh (yyj a0) (4-0) 0 []with|.error e=>e|.ok s1=>s1)
namespace N122
theorem DD:DOk Tryz.prog (Go.Ab.DD []):=yb _
theorem o0 {p:Prop} (h:p:=by(first|(have h4:=hq4 i1;have h1:=hW1;have h2:=hW2;and_intros<;>omega));first|done|fail):p:=h
theorem lx {p:Prop} (h:p:=by(exact lxx);first|done|fail):p:=h
theorem den (a0:(List Sector)) (hb0:a0.length<1099511627776) (hb1:∀ v∈a0,bdSector v):Den Tryz.prog 122 [encL 3 yw a0] (.str (zbb a0)):=by
 generalize hR:zbb a0=r;unfold zbb at hR;refine di Tryz.func122 Tryz.ntmps122 Tryz.results122 ?_;intro c hL hc hk;obtain⟨hL0,_⟩:=hL;have hw0:a0.length<9223372036854775808:=Nat.lt_succ_of_le (yf hL0).1;have hw1:∀ v∈a0,bwSector v:=fun v hv=>yfb v ((yf hL0).2 v hv)
 clear hL0;simp only[pars,Nat.zero_add];have hq4:∀ i:Nat,(([[87],[82],[71],[89]]:List (List UInt8)).getD i default).length<=1:=fun i=>by rcases i with _|_|_|_|i<;>first|exact Nat.le_refl _|exact Nat.zero_le _
 iterate 4 refine rS ?_
 refine AWP.block ?_;generalize hz1:yh (yyj a0) (4-0) 0 []=z1 at hR;refine AWP.range (yyj a0) (fun i1 s1=>⟨[(0,encL 3 yw a0),(3,.str s1),(4,.ref 0 1 0 4),(5,.int .i64 (i1:Int))],[.arr 9 1 [[87],[82],[71],[89]].length (fun j=>eS ([[87],[82],[71],[89]].getD j default))]⟩) (fun i1 s1=>s1.length<=i1) (4) 0 [] [0] hz1 ot (by(simp)) sm ?_;clear hz1;intro i1 s1 hi1 hW1 hz1;refine rS ?_;refine AWP.cond rfl (fun hb => ?_) (fun hb => ?_)
 ·have hlt1:i1<4:=ot
  rw[yn hlt1]at hz1;simp only[yyj]at hz1;refine rS ?_;refine AWP.block ?_;generalize hz2:yh (yen a0 i1 s1) (a0.length-0) 0 s1=z2 at hz1;refine AWP.range (yen a0 i1 s1) (fun i2 s2=>⟨[(0,encL 3 yw a0),(3,.str s2),(4,.ref 0 1 0 4),(5,.int .i64 (i1:Int)),(6,.int .i64 (i2:Int))],[.arr 9 1 [[87],[82],[71],[89]].length (fun j=>eS ([[87],[82],[71],[89]].getD j default))]⟩) (fun i2 s2=>s2.length<=i1) (a0.length) 0 s1 [0] hz2 ot (by(exact hW1)) sm ?_;clear hz2;intro i2 s2 hi2 hW2 hz2;refine rS ?_;refine AWP.cond rfl (fun hb => ?_) (fun hb => ?_)
  ·have hlt2:i2<a0.length:=ot
   rw[yn hlt2]at hz2;simp only[yen]at hz2;refine rD 9 ?_;refine AWP.cond rfl (fun hb => ?_) (fun hb => ?_)
   ·simp only[hb,cond_true]at hz2
    refine rS ?_;refine AWP.exit ?_;refine ymg rfl ?_;refine yc ?_;subst hz2;dsimp only at hz1;refine rS ?_;exact⟨_,[0],hlt1,by(have h4:=hq4 i1;simp only[ln]at *;omega),hz1,sm⟩
   ·simp only[hb,cond_false]at hz2
    refine rS ?_;exact⟨_,[0],hlt2,by(first|exact hW2|assumption),hz2,sm⟩
  ·obtain rfl:i2=a0.length:=ot
   rw[yp (Nat.le_refl _)]at hz2;subst hz2;dsimp only at hz1;refine AWP.exit ?_;refine yc ?_;refine rS ?_;exact⟨_,[0],hlt1,by(have h4:=hq4 i1;simp only[ln]at *;omega),hz1,sm⟩
 ·obtain rfl:i1=4:=ot
  rw[yp (Nat.le_refl _)]at hz1;subst hz1;dsimp only at hR;refine AWP.exit ?_;refine yc ?_;refine rS ?_;refine AWP.ret ?_;subst hR;exact es
end N122
def D_zbb : DF
 | [x0]=>some (.str (zbb (rdL y8 x0)),false,[wL 3 yw y8 x0,(rdL y8 x0).length<1099511627776,∀ v∈(rdL y8 x0),bdSector v])
 | _=>none
theorem ybq:OkD Tryz.prog 122 D_zbb:=by unfold D_zbb;exact dk N122.den
def zhb (a0:Int):Bool:=
 (zf a0 1 9)
namespace N52
theorem DD:DOk Tryz.prog (Go.Ab.DD [(81,dP D_zf)]):=ya yed.e <| yb _
theorem dn:type_of% (@D_zf.eq_1):=by and_intros<;>intros<;>rfl
theorem ol:type_of% (@zf.eq_1):=@zf.eq_1
theorem den (a0:Int)  : Den Tryz.prog 52 [.int .i64 a0] (.bool (zhb a0)):=by
 generalize hR:zhb a0=r;unfold zhb at hR;refine di Tryz.func52 Tryz.ntmps52 Tryz.results52 ?_;intro c hL hc hk;clear hL;simp only[pars,Nat.zero_add];iterate 2 refine rS ?_
 refine AWP.ret ?_;subst hR;exact es
end N52
def D_zhb : DF
 | [x0]=>some (.bool (zhb (rdI x0)),false,[wI .i64 x0])
 | _=>none
theorem y1k:OkD Tryz.prog 52 D_zhb:=by unfold D_zhb;exact dk N52.den
def zad (a0:Int):(List UInt8):=
 (([[],[82],[71],[66,89],[66,89,66],[89,66],[89,66,89],[66,82,66],[82,87],[89]]:List (List UInt8)).getD ((a0).toNat) default)
namespace N53
theorem DD:DOk Tryz.prog (Go.Ab.DD []):=yb _
theorem lx {p:Prop} (h:p:=by(exact lxx);first|done|fail):p:=h
theorem den (a0:Int) (hp0:0<=a0) (hp1:a0<=9):Den Tryz.prog 53 [.int .i64 a0] (.str (zad a0)):=by
 generalize hR:zad a0=r;unfold zad at hR;refine di Tryz.func53 Tryz.ntmps53 Tryz.results53 ?_;intro c hL hc hk;clear hL;simp only[pars,Nat.zero_add];iterate 2 refine rS ?_
 refine AWP.ret ?_;subst hR;exact es
end N53
def D_zad : DF
 | [x0]=>some (.str (zad (rdI x0)),false,[wI .i64 x0,0<=(rdI x0),(rdI x0)<=9])
 | _=>none
theorem yhl:OkD Tryz.prog 53 D_zad:=by unfold D_zad;exact dk N53.den
def zy (a0:Int):(List (List UInt8)):=
 (bif (a0 == 1)then[[99,97,110],[112,105,108,108,97,114],[115,112,97,114]]else(bif (a0 == 2)then[[99,111,110,101],[112,105,108,108,97,114],[115,112,97,114]]else(bif (a0 == 8)then[[115,112,104,101,114,101],[112,105,108,108,97,114],[115,112,97,114]]else(bif (a0 == 9)then[[99,97,110],[99,111,110,101],[112,105,108,108,97,114],[115,112,97,114],[115,112,104,101,114,101]]else[[112,105,108,108,97,114],[115,112,97,114]]))))
namespace N54
theorem DD:DOk Tryz.prog (Go.Ab.DD []):=yb _
theorem lx {p:Prop} (h:p:=by(exact lxx);first|done|fail):p:=h
theorem den (a0:Int)  : Den Tryz.prog 54 [.int .i64 a0] (ownL 9 1 eS (zy a0)):=by
 generalize hR:zy a0=r;unfold zy at hR;refine di Tryz.func54 Tryz.ntmps54 Tryz.results54 ?_;intro c hL hc hk;clear hL;simp only[pars,Nat.zero_add];iterate 3 refine rS ?_
 refine AWP.cond rfl (fun hb => ?_) (fun hb => ?_)
 ·replace hR:=ct hR
  refine rS ?_;refine AWP.ret ?_;subst hR;exact es
 ·replace hR:=cf hR
  refine rS ?_;refine AWP.cond rfl (fun hb => ?_) (fun hb => ?_)
  ·replace hR:=ct hR
   refine rS ?_;refine AWP.ret ?_;subst hR;exact es
  ·replace hR:=cf hR
   refine rS ?_;refine AWP.cond rfl (fun hb => ?_) (fun hb => ?_)
   ·replace hR:=ct hR
    refine rS ?_;refine AWP.ret ?_;subst hR;exact es
   ·replace hR:=cf hR
    refine rS ?_;refine AWP.cond rfl (fun hb => ?_) (fun hb => ?_)
    ·replace hR:=ct hR
     refine rS ?_;refine AWP.ret ?_;subst hR;exact es
    ·replace hR:=cf hR
     refine rS ?_;refine AWP.ret ?_;subst hR;exact es
end N54
def D_zy : DF
 | [x0]=>some (ownL 9 1 eS (zy (rdI x0)),false,[wI .i64 x0])
 | _=>none
def Dz_zy : DF
 | [x0]=>some (ownL 9 1 eS (zy (rdI x0)),true,[wI .i64 x0])
 | _=>none
theorem you:OkD Tryz.prog 54 D_zy:=by unfold D_zy;exact dk N54.den
theorem ymx:OkD Tryz.prog 54 Dz_zy:=by unfold Dz_zy;exact dk N54.den
def zbd (a0:Int):(List UInt8):=
 (([[],[99,97,110],[99,111,110,101],[117,112],[98,97,115,101],[100,111,119,110],[112,111,105,110,116],[98,97,108,108,115],[98,97,108,108],[99,114,111,115,115]]:List (List UInt8)).getD ((a0).toNat) default)
namespace N55
theorem DD:DOk Tryz.prog (Go.Ab.DD []):=yb _
theorem lx {p:Prop} (h:p:=by(exact lxx);first|done|fail):p:=h
theorem den (a0:Int) (hp0:0<=a0) (hp1:a0<=9):Den Tryz.prog 55 [.int .i64 a0] (.str (zbd a0)):=by
 generalize hR:zbd a0=r;unfold zbd at hR;refine di Tryz.func55 Tryz.ntmps55 Tryz.results55 ?_;intro c hL hc hk;clear hL;simp only[pars,Nat.zero_add];iterate 2 refine rS ?_
 refine AWP.ret ?_;subst hR;exact es
end N55
def D_zbd : DF
 | [x0]=>some (.str (zbd (rdI x0)),false,[wI .i64 x0,0<=(rdI x0),(rdI x0)<=9])
 | _=>none
theorem ynk:OkD Tryz.prog 55 D_zbd:=by unfold D_zbd;exact dk N55.den
def y0h (a0:Mark) (i1:Nat) (s1:Unit):Except (Bool) (Unit):=
 (bif (((zy a0.Kind).getD i1 default) == a0.Shape)then .error true else .ok ())
def zcd (a0:Mark):Bool:=
 (bif (a0.Kind == 0)then(a0.Kind == 0 && (a0.Colors == [] && (a0.Shape == [] && a0.Topmark == [])))else(bif (((!(zhb a0.Kind)) || (a0.Colors != (zad a0.Kind))) || ((a0.Topmark != []) && (a0.Topmark != (zbd a0.Kind))))then false else(match yh (y0h a0) (((zy a0.Kind).length)-0) 0 ()with|.error e=>e|.ok s1=>false)))
namespace N168
theorem DD:DOk Tryz.prog (Go.Ab.DD [(52,dP D_zhb),(53,dP D_zad),(54,dP D_zy),(55,dP D_zbd)]):=ya y1k.e <| ya yhl.e <| ya you.e <| ya ynk.e <| yb _
theorem dn:type_of% (And.intro @D_zhb.eq_1 <| And.intro @D_zad.eq_1 <| And.intro @D_zy.eq_1 <| @D_zbd.eq_1):=by and_intros<;>intros<;>rfl
theorem o0 {p:Prop} (h:p:=by(first|(simp only[zhb,zf];refine⟨fun h => ?_,fun h _ => ?_⟩<;>(simp at h;omega)));first|done|fail):p:=h
theorem den (a0:Mark)  : Den Tryz.prog 168 [.ep (yzg a0)] (.bool (zcd a0)):=by
 generalize hR:zcd a0=r;unfold zcd at hR;refine di Tryz.func168 Tryz.ntmps168 Tryz.results168 ?_;intro c hL hc hk;obtain⟨hL0,_⟩:=hL;have hw0:bwMark a0:=yih a0 hL0;clear hL0;simp only[pars,Nat.zero_add];have hs5:(zy a0.Kind).length<=5:=by unfold zy;simp only[Bool.cond_eq_ite];(repeat' split)<;>simp
 iterate 2 refine rS ?_
 refine AWP.cond rfl (fun hb => ?_) (fun hb => ?_)
 ·replace hR:=ct hR
  refine rS ?_;refine AWP.ret ?_;subst hR;exact es
 ·replace hR:=cf hR
  refine rD 37 ?_;refine AWP.cond rfl (fun hb => ?_) (fun hb => ?_)
  ·replace hR:=ct hR
   refine rS ?_;refine AWP.ret ?_;subst hR;exact es
  ·replace hR:=cf hR
   iterate 2 refine rS ?_
   refine AWP.block ?_;generalize hz1:yh (y0h a0) (((zy a0.Kind).length)-0) 0 ()=z1 at hR;refine AWP.range (y0h a0) (fun i1 s1=>⟨[(0,.ep (yzg a0)),(3,.ref 0 1 0 ((zy a0.Kind).length)),(4,.int .i64 (i1:Int))],[.arr 9 1 (zy a0.Kind).length (fun j=>eS ((zy a0.Kind).getD j default))]⟩) (fun i1 s1=>True) (((zy a0.Kind).length)) 0 () [0] hz1 ot wt sm ?_;clear hz1;intro i1 s1 hi1 hW1 hz1;refine rS ?_;refine AWP.cond rfl (fun hb => ?_) (fun hb => ?_)
   ·have hlt1:i1<((zy a0.Kind).length):=ot
    rw[yn hlt1]at hz1;simp only[y0h]at hz1;refine rD 8 ?_;refine AWP.cond rfl (fun hb => ?_) (fun hb => ?_)
    ·simp only[hb,cond_true]at hz1
     refine rS ?_;refine AWP.ret ?_;subst hz1;dsimp only at hR;subst hR;exact es
    ·simp only[hb,cond_false]at hz1
     refine rS ?_;exact⟨_,[0],hlt1,wt,hz1,sm⟩
   ·obtain rfl:i1=((zy a0.Kind).length):=ot
    rw[yp (Nat.le_refl _)]at hz1;subst hz1;dsimp only at hR;refine AWP.exit ?_;refine yc ?_;refine rS ?_;refine AWP.ret ?_;subst hR;exact es
end N168
def D_zcd : DF
 | [x0]=>some (.bool (zcd (rdP yok x0)),false,[wP yzg yok x0])
 | _=>none
theorem yav:OkD Tryz.prog 168 D_zcd:=by unfold D_zcd;exact dk N168.den
def ztc (a0:Mark):Bool:=
 (zcd a0)
namespace N118
theorem DD:DOk Tryz.prog (Go.Ab.DD [(168,dP D_zcd)]):=ya yav.e <| yb _
theorem dn:type_of% (@D_zcd.eq_1):=by and_intros<;>intros<;>rfl
theorem den (a0:Mark)  : Den Tryz.prog 118 [.agg (yzg a0)] (.bool (ztc a0)):=by
 generalize hR:ztc a0=r;unfold ztc at hR;refine di Tryz.func118 Tryz.ntmps118 Tryz.results118 ?_;intro c hL hc hk;obtain⟨hL0,_⟩:=hL;have hw0:bwMark a0:=yih a0 hL0;clear hL0;simp only[pars,Nat.zero_add];iterate 2 refine rS ?_
 refine AWP.ret ?_;subst hR;exact es
end N118
def D_ztc : DF
 | [x0]=>some (.bool (ztc (rdG yok x0)),false,[wG yzg yok x0])
 | _=>none
theorem yqx:OkD Tryz.prog 118 D_ztc:=by unfold D_ztc;exact dk N118.den
def zdd (a0:Character):Bool:=
 (((((a0.Kind == 0) && ((a0.Group.length:Int) == 0)) && (a0.Letter == [])) && (a0.Colors == [])) && (a0.Period == 0))
namespace N119
theorem DD:DOk Tryz.prog (Go.Ab.DD []):=yb _
theorem den (a0:Character)  : Den Tryz.prog 119 [.ep (ym a0)] (.bool (zdd a0)):=by
 generalize hR:zdd a0=r;unfold zdd at hR;refine di Tryz.func119 Tryz.ntmps119 Tryz.results119 ?_;intro c hL hc hk;obtain⟨hL0,_⟩:=hL;have hw0:bwCharacter a0:=yv a0 hL0;clear hL0;simp only[pars,Nat.zero_add];iterate 2 refine rS ?_
 refine AWP.ret ?_;subst hR;exact es
end N119
def D_zdd : DF
 | [x0]=>some (.bool (zdd (rdP ye x0)),false,[wP ym ye x0])
 | _=>none
theorem yix:OkD Tryz.prog 119 D_zdd:=by unfold D_zdd;exact dk N119.den
def zof (a0:(List Int)):(List Int):=
 ([]:List Int)++a0
namespace N284
theorem DD:DOk Tryz.prog (Go.Ab.DD []):=yb _
theorem den (a0:(List Int)) (hb0:a0.length<1099511627776):Den Tryz.prog 284 [encL 1 yq a0] (ownL 2 1 yq (zof a0)):=by
 generalize hR:zof a0=r;unfold zof at hR;refine di Tryz.func284 Tryz.ntmps284 Tryz.results284 ?_;intro c hL hc hk;obtain⟨hL0,_⟩:=hL;have hw0:a0.length<9223372036854775808:=Nat.lt_succ_of_le (yf hL0).1;clear hL0;simp only[pars,Nat.zero_add];iterate 2 refine rS ?_
 refine AWP.ret ?_;subst hR;exact es
end N284
def D_zof : DF
 | [x0]=>some (ownL 2 1 yq (zof (rdL ydb x0)),false,[wL 1 yq ydb x0,(rdL ydb x0).length<1099511627776])
 | _=>none
theorem yfv:OkD Tryz.prog 284 D_zof:=by unfold D_zof;exact dk N284.den
def zpf (a0:Character):Character:=
 { Kind:=a0.Kind,Group:=(zof a0.Group),Letter:=a0.Letter,Colors:=a0.Colors,Period:=a0.Period:Character }
namespace N251
theorem DD:DOk Tryz.prog (Go.Ab.DD [(284,dP D_zof)]):=ya yfv.e <| yb _
theorem dn:type_of% (@D_zof.eq_1):=by and_intros<;>intros<;>rfl
theorem den (a0:Character) (hb0:bdCharacter a0):Den Tryz.prog 251 [.ep (ym a0)] (.agg (ydc (zpf a0))):=by
 generalize hR:zpf a0=r;unfold zpf at hR;refine di Tryz.func251 Tryz.ntmps251 Tryz.results251 ?_;intro c hL hc hk;obtain⟨hL0,_⟩:=hL;have hw0:bwCharacter a0:=yv a0 hL0;clear hL0;simp only[pars,Nat.zero_add];iterate 4 refine rS ?_
 refine AWP.ret ?_;subst hR;exact es
end N251
def D_zpf : DF
 | [x0]=>some (.agg (ydc (zpf (rdP ye x0))),false,[wP ym ye x0,bdCharacter (rdP ye x0)])
 | _=>none
theorem y4u:OkD Tryz.prog 251 D_zpf:=by unfold D_zpf;exact dk N251.den
def zde (a0:Aid):Aid:=
 { Number:=a0.Number,Name:=a0.Name,At:=a0.At,Height:=a0.Height,Mark:=a0.Mark,Light:=zpf a0.Light,Sectors:=([]:List Sector)++a0.Sectors,Intensity:=a0.Intensity:Aid }
namespace N198
theorem DD:DOk Tryz.prog (Go.Ab.DD [(251,dP D_zpf)]):=ya y4u.e <| yb _
theorem dn:type_of% (@D_zpf.eq_1):=by and_intros<;>intros<;>rfl
theorem den (a0:Aid) (hb0:bdAid a0):Den Tryz.prog 198 [.ep (eAid a0)] (.agg (yoe (zde a0))):=by
 generalize hR:zde a0=r;unfold zde at hR;refine di Tryz.func198 Tryz.ntmps198 Tryz.results198 ?_;intro c hL hc hk;obtain⟨hL0,_⟩:=hL;have hw0:bwAid a0:=yeb a0 hL0;clear hL0;simp only[pars,Nat.zero_add];iterate 5 refine rS ?_
 refine AWP.ret ?_;subst hR;exact es
end N198
def D_zde : DF
 | [x0]=>some (.agg (yoe (zde (rdP dAid x0))),false,[wP eAid dAid x0,bdAid (rdP dAid x0)])
 | _=>none
theorem yqp:OkD Tryz.prog 198 D_zde:=by unfold D_zde;exact dk N198.den
def ymj (a0:(List Aid)) (i1:Nat) (s1:List Aid):Except ((List Aid)) (List Aid):=
 .ok (s1++[zde (a0.getD i1 default)])
def zhd (a0:(List Aid)):(List Aid):=
 (match yh (ymj a0) (a0.length-0) 0 ([]:List Aid)with|.error e=>e|.ok s1=>s1)
namespace N197
theorem DD:DOk Tryz.prog (Go.Ab.DD [(198,dP D_zde)]):=ya yqp.e <| yb _
theorem dn:type_of% (@D_zde.eq_1):=by and_intros<;>intros<;>rfl
theorem den (a0:(List Aid)) (hb0:a0.length<1099511627776) (hb1:∀ v∈a0,bdAid v) (hp0:a0.length<=1073741824):Den Tryz.prog 197 [encL 16 eAid a0] (ownL 45 16 yoe (zhd a0)):=by
 generalize hR:zhd a0=r;unfold zhd at hR;refine di Tryz.func197 Tryz.ntmps197 Tryz.results197 ?_;intro c hL hc hk;obtain⟨hL0,_⟩:=hL;have hw0:a0.length<9223372036854775808:=Nat.lt_succ_of_le (yf hL0).1;have hw1:∀ v∈a0,bwAid v:=fun v hv=>yeb v ((yf hL0).2 v hv)
 clear hL0;simp only[pars,Nat.zero_add];iterate 3 refine rS ?_
 refine AWP.block ?_;generalize hz1:yh (ymj a0) (a0.length-0) 0 ([]:List Aid)=z1 at hR;refine AWP.range (ymj a0) (fun i1 s1=>⟨[(0,encL 16 eAid a0),(3,.ref 0 16 0 s1.length),(4,.int .i64 (i1:Int))],[.arr 45 16 s1.length (fun j=>yoe (s1.getD j default))]⟩) (fun i1 s1=>s1.length<=([]:List Aid).length+1 * i1) (a0.length) 0 ([]:List Aid) [0] hz1 ot wt sm ?_;clear hz1;intro i1 s1 hi1 hW1 hz1;refine rS ?_;refine AWP.cond rfl (fun hb => ?_) (fun hb => ?_)
 ·have hlt1:i1<a0.length:=ot
  rw[yn hlt1]at hz1;simp only[ymj]at hz1;iterate 2 refine rS ?_
  exact⟨_,[4],hlt1,wt,hz1,sm⟩
 ·obtain rfl:i1=a0.length:=ot
  rw[yp (Nat.le_refl _)]at hz1;subst hz1;dsimp only at hR;refine AWP.exit ?_;refine yc ?_;refine rS ?_;refine AWP.ret ?_;subst hR;exact es
end N197
def D_zhd : DF
 | [x0]=>some (ownL 45 16 yoe (zhd (rdL dAid x0)),false,[wL 16 eAid dAid x0,(rdL dAid x0).length<1099511627776,∀ v∈(rdL dAid x0),bdAid v,(rdL dAid x0).length<=1073741824])
 | _=>none
theorem y3v:OkD Tryz.prog 197 D_zhd:=by unfold D_zhd;exact dk N197.den
def zmb (a0:Danger):Bool:=
 (((zob a0.Name) && (zeb a0.At)) && (zf a0.Radius 1 20000))
namespace N79
theorem DD:DOk Tryz.prog (Go.Ab.DD [(116,dP D_zob),(117,dP D_zeb),(81,dP D_zf)]):=ya y2o.e <| ya y1g.e <| ya yed.e <| yb _
theorem dn:type_of% (And.intro @D_zob.eq_1 <| And.intro @D_zeb.eq_1 <| @D_zf.eq_1):=by and_intros<;>intros<;>rfl
theorem ol:type_of% (@zf.eq_1):=@zf.eq_1
theorem den (a0:Danger)  : Den Tryz.prog 79 [.ep (yr a0)] (.bool (zmb a0)):=by
 generalize hR:zmb a0=r;unfold zmb at hR;refine di Tryz.func79 Tryz.ntmps79 Tryz.results79 ?_;intro c hL hc hk;obtain⟨hL0,_⟩:=hL;have hw0:bwDanger a0:=y5 a0 hL0;clear hL0;simp only[pars,Nat.zero_add];iterate 2 refine rS ?_
 refine AWP.ret ?_;subst hR;exact es
end N79
def D_zmb : DF
 | [x0]=>some (.bool (zmb (rdP yu x0)),false,[wP yr yu x0])
 | _=>none
theorem y6o:OkD Tryz.prog 79 D_zmb:=by unfold D_zmb;exact dk N79.den
def yrs (a0:Danger) (a1:(List Aid)) (a2:Int) (i1:Nat) (s1:List Int):Except ((List Int)) (List Int):=
 (bif (zxf a0 (a1.getD i1 default) a2)then .ok (zcg s1 (((a1.getD i1 default).Mark).Kind))else .ok s1)
def zyf (a0:Danger) (a1:(List Aid)) (a2:Int):(List Int):=
 (match yh (yrs a0 a1 a2) (a1.length-0) 0 ([]:List Int)with|.error e=>e|.ok s1=>s1)
def zcb (a0:Int):(Mark×Int):=
 (bif (!(zhb a0))then({ Kind:=0,Colors:=[],Shape:=[],Topmark:=[]:Mark },2)else({ Kind:=a0,Colors:=(zad a0),Shape:=((zy a0).getD 0 default),Topmark:=(zbd a0):Mark },0))
namespace N11
theorem DD:DOk Tryz.prog (Go.Ab.DD [(52,dP D_zhb),(53,dP D_zad),(54,dP D_zy),(55,dP D_zbd)]):=ya y1k.e <| ya yhl.e <| ya you.e <| ya ynk.e <| yb _
theorem DZ:DOk Tryz.prog (Go.Ab.DD [(52,dP D_zhb),(53,dP D_zad),(54,dP Dz_zy),(55,dP D_zbd)]):=ya y1k.e <| ya yhl.e <| ya ymx.e <| ya ynk.e <| yb _
theorem dn:type_of% (And.intro @D_zhb.eq_1 <| And.intro @D_zad.eq_1 <| And.intro @D_zy.eq_1 <| And.intro @D_zbd.eq_1 <| @Dz_zy.eq_1):=by and_intros<;>intros<;>rfl
theorem o1 {p:Prop} (h:p:=by(first|(have h9:=hki (by assumption);omega));first|done|fail):p:=h
theorem den (a0:Int)  : Den Tryz.prog 11 [.int .i64 a0] (.tup [.agg (yzg ((zcb a0).1)),.int .i64 ((zcb a0).2)]):=by
 generalize hR:zcb a0=r;unfold zcb at hR;refine di Tryz.func11 Tryz.ntmps11 Tryz.results11 ?_;intro c hL hc hk;clear hL;simp only[pars,Nat.zero_add];have hs5:1<=(zy a0).length:=by unfold zy;simp only[Bool.cond_eq_ite];(repeat' split)<;>simp
 have hki:zhb a0=true->0<=a0/\a0<=9:=fun h=>by unfold zhb zf at h;simp at h;omega
 iterate 2 refine rS ?_
 refine AWP.cond rfl (fun hb => ?_) (fun hb => ?_)
 ·replace hR:=ct hR
  refine rS ?_;refine AWP.ret ?_;subst hR;exact es
 ·replace hR:=cf hR
  refine rZ 9 ?_;refine AWP.ret ?_;subst hR;exact es
end N11
def D_zcb : DF
 | [x0]=>some (.tup [.agg (yzg ((zcb (rdI x0)).1)),.int .i64 ((zcb (rdI x0)).2)],false,[wI .i64 x0])
 | _=>none
theorem y2g:OkD Tryz.prog 11 D_zcb:=by unfold D_zcb;exact dk N11.den
end Go.Ab
