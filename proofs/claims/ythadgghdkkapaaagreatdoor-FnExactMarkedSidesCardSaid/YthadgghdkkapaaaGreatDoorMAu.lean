/- A part of a proof: walks of functions and lemmas of our own. No conditions. -/
import Derived.Test.YthadgghdkkapaaaGreatDoorMAl
import Derived.Test.YthadgghdkkapaaaGreatDoorMAt
import Derived.Test.YthadgghdkkapaaaGreatDoorMAo
set_option linter.unusedSectionVars false
set_option linter.unusedVariables false
set_option linter.unusedSimpArgs false
set_option maxHeartbeats 1000000
namespace Go.Ab
open Go Go.Proofs
def y0q (a0:Character) (i1:Nat) (s1:List Int):Except ((List Int)) (List Int):=
 (bif decide (0<(i1:Int))then .ok ((s1++([5]:List Int))++([((zq ((a0.Letter.getD 0 0).toNat:Int)).getD i1 default)]:List Int))else .ok (s1++([((zq ((a0.Letter.getD 0 0).toNat:Int)).getD i1 default)]:List Int)))
def y1p (a0:Character) (i2:Nat) (s2:List Int) (i3:Nat) (s3:List Int):Except ((List Int)) (List Int):=
 (bif decide (0<(i3:Int))then .ok ((s3++([(zbc a0.Kind)]:List Int))++([(zhd a0.Kind)]:List Int))else(bif decide (0<(i2:Int))then .ok ((s3++([IntKind.wrap .i64 ((zbc a0.Kind)+20)]:List Int))++([(zhd a0.Kind)]:List Int))else .ok (s3++([(zhd a0.Kind)]:List Int))))
def y6q (a0:Character) (i2:Nat) (s2:List Int):Except ((List Int)) (List Int):=
 (match yf (y1p a0 i2 s2) (((([1]:List Int).getD i2 default)).toNat-0) 0 s2 with|.error e=>.error e|.ok s3=>.ok s3)
def yzp (a0:Character) (i4:Nat) (s4:List Int) (i5:Nat) (s5:List Int):Except ((List Int)) (List Int):=
 (bif decide (0<(i5:Int))then .ok ((s5++([(zbc a0.Kind)]:List Int))++([(zhd a0.Kind)]:List Int))else(bif decide (0<(i4:Int))then .ok ((s5++([IntKind.wrap .i64 ((zbc a0.Kind)+20)]:List Int))++([(zhd a0.Kind)]:List Int))else .ok (s5++([(zhd a0.Kind)]:List Int))))
def ygq (a0:Character) (i4:Nat) (s4:List Int):Except ((List Int)) (List Int):=
 (match yf (yzp a0 i4 s4) (((a0.Group.getD i4 default)).toNat-0) 0 s4 with|.error e=>.error e|.ok s5=>.ok s5)
def zg (a0:Character):(List Int):=
 (bif (a0.Kind == 8)then(match yf (y0q a0) (((zq ((a0.Letter.getD 0 0).toNat:Int)).length)-0) 0 ([]:List Int)with|.error e=>e|.ok s1=>s1)else(bif ((a0.Group.length:Int) == 0)then(match yf (y6q a0) (1-0) 0 ([]:List Int)with|.error e=>e|.ok s2=>(bif (a0.Letter == [76])then s2++([(zbc a0.Kind),20]:List Int)else s2))else(match yf (ygq a0) (a0.Group.length-0) 0 ([]:List Int)with|.error e=>e|.ok s4=>(bif (a0.Letter == [76])then s4++([(zbc a0.Kind),20]:List Int)else s4))))
namespace N228
theorem DD:DOk Tryz.prog (Go.Ab.DD [(233,dP D_zbc),(271,dP D_zq),(272,dP D_zhd)]):=ya y8n.e <| ya ysy.e <| ya y5v.e <| yc _
theorem dn:type_of% (And.intro @D_zbc.eq_1 <| And.intro @D_zq.eq_1 <| @D_zhd.eq_1):=by and_intros<;>intros<;>rfl
theorem o2 {p:Prop} (h:p:=by(first|(and_intros<;>first|decide|omega|(simp;(first|done|fail))|(rw[IntKind.wrap_i64];have:=hg9 i4;omega)|(rw[IntKind.wrap_i64];have:=hg1 i2;omega)|(rw[IntKind.wrap_i64];omega)|(intro i hi;exact yik _ _ i hi)|(intro i hi;exact yqm _ _ _ i hi)));first|done|fail):p:=h
theorem o3 {p:Prop} (h:p:=by(first|(refine⟨⟨Nat.le_refl _,fun i hi=>yal _ _ _ i hi⟩,.inl fun i hi=>by rw[y7g _ _ _ i hi];simp[NoBorL,NoBor],by simp,fun i hi=>by rw[y7g _ _ _ i hi];exact yfb _⟩));first|done|fail):p:=h
theorem lx {p:Prop} (h:p:=by(exact lxx);first|done|fail):p:=h
set_option maxHeartbeats 1000000 in
set_option maxRecDepth 20000 in
theorem den (a0:Character) (hb0:bdCharacter a0) (hp0:a0.Group.length<=4) (hp1:∀ v∈a0.Group,v<=9) (hp2:a0.Kind=8->a0.Letter.length=1/\65<=(a0.Letter.getD 0 0).toNat/\(a0.Letter.getD 0 0).toNat<=90):Den Tryz.prog 228 [.ep (eCharacter a0)] (ownL 2 1 yl (zg a0)):=by
 generalize hR:zg a0=r;unfold zg at hR;refine di Tryz.func228 Tryz.ntmps228 Tryz.results228 ?_;intro c hL hc hk;obtain⟨hL0,_⟩:=hL;have hw0:bwCharacter a0:=yn a0 hL0;clear hL0;simp only[pars,Nat.zero_add];have hg9:∀ i:Nat,a0.Group.getD i default<=9:=fun i=>yzj hp1 i
 have hs9:=yps ((a0.Letter.getD 0 0).toNat:Int);have hg1:∀ i:Nat,([1]:List Int).getD i default<=9:=fun i=>yzj (by simp) i
 iterate 3 refine rS ?_
 refine AWP.cond rfl (fun hb => ?_) (fun hb => ?_)
 ·replace hR:=ct hR
  iterate 2 refine rS ?_
  refine AWP.block ?_;generalize hz1:yf (y0q a0) (((zq ((a0.Letter.getD 0 0).toNat:Int)).length)-0) 0 ([]:List Int)=z1 at hR;refine AWP.range (y0q a0) (fun i1 s1=>⟨[(3,.ref 0 1 0 s1.length),(4,.ref 1 1 0 ((zq ((a0.Letter.getD 0 0).toNat:Int)).length)),(5,.int .i64 (i1:Int))],[.arr 2 1 s1.length (fun j=>yl (s1.getD j default)),.arr 2 1 (zq ((a0.Letter.getD 0 0).toNat:Int)).length (fun j=>yl ((zq ((a0.Letter.getD 0 0).toNat:Int)).getD j default))]⟩) (fun i1 s1=>s1.length<=([]:List Int).length+2 * i1/\s1.length<=2 * i1) (((zq ((a0.Letter.getD 0 0).toNat:Int)).length)) 0 ([]:List Int) [0,1] hz1 ot wt sm ?_;clear hz1;intro i1 s1 hi1 hW1 hz1;refine rS ?_;refine AWP.cond rfl (fun hb => ?_) (fun hb => ?_)
  ·have hlt1:i1<((zq ((a0.Letter.getD 0 0).toNat:Int)).length):=ot
   rw[yk hlt1]at hz1;simp only[y0q]at hz1;refine rS ?_;refine AWP.cond rfl (fun hb => ?_) (fun hb => ?_)
   ·simp only[hb,cond_true]at hz1
    iterate 3 refine rS ?_
    exact⟨_,[5,1],hlt1,wt,hz1,sm⟩
   ·simp only[hb,cond_false]at hz1
    iterate 2 refine rS ?_
    exact⟨_,[3,1],hlt1,wt,hz1,sm⟩
  ·obtain rfl:i1=((zq ((a0.Letter.getD 0 0).toNat:Int)).length):=ot
   rw[yj (Nat.le_refl _)]at hz1;subst hz1;dsimp only at hR;refine AWP.exit ?_;refine yb ?_;refine rS ?_;refine AWP.ret ?_;subst hR;exact es
 ·replace hR:=cf hR
  iterate 2 refine rS ?_
  refine AWP.cond rfl (fun hb => ?_) (fun hb => ?_)
  ·replace hR:=ct hR
   iterate 2 refine rS ?_
   refine AWP.block ?_;generalize hz2:yf (y6q a0) (1-0) 0 ([]:List Int)=z2 at hR;refine AWP.range (y6q a0) (fun i2 s2=>⟨[(0,.ep (eCharacter a0)),(3,.ref 0 1 0 s2.length),(6,.ref 1 1 0 1),(7,.int .i64 (i2:Int))],[.arr 2 1 s2.length (fun j=>yl (s2.getD j default)),.arr 2 1 ([1]:List Int).length (fun j=>yl (([1]:List Int).getD j default))]⟩) (fun i2 s2=>s2.length<=18 * i2) (1) 0 ([]:List Int) [0,1] hz2 ot wt sm ?_;clear hz2;intro i2 s2 hi2 hW2 hz2;refine rS ?_;refine AWP.cond rfl (fun hb => ?_) (fun hb => ?_)
   ·have hlt2:i2<1:=ot
    rw[yk hlt2]at hz2;simp only[y6q]at hz2;refine rS ?_;refine AWP.block ?_;generalize hz3:yf (y1p a0 i2 s2) (((([1]:List Int).getD i2 default)).toNat-0) 0 s2=z3 at hz2;refine AWP.range (y1p a0 i2 s2) (fun i3 s3=>⟨[(0,.ep (eCharacter a0)),(3,.ref 0 1 0 s3.length),(6,.ref 1 1 0 1),(7,.int .i64 (i2:Int)),(8,.int .i64 (i3:Int))],[.arr 2 1 s3.length (fun j=>yl (s3.getD j default)),.arr 2 1 ([1]:List Int).length (fun j=>yl (([1]:List Int).getD j default))]⟩) (fun i3 s3=>s3.length<=s2.length+2 * i3/\s3.length<=18 * i2+2 * i3) (((([1]:List Int).getD i2 default)).toNat) 0 s2 [0,1] hz3 ot wt sm ?_;clear hz3;intro i3 s3 hi3 hW3 hz3;refine rS ?_;refine AWP.cond rfl (fun hb => ?_) (fun hb => ?_)
    ·have hlt3:i3<((([1]:List Int).getD i2 default)).toNat:=ot
     rw[yk hlt3]at hz3;simp only[y1p]at hz3;refine rS ?_;refine AWP.cond rfl (fun hb => ?_) (fun hb => ?_)
     ·simp only[hb,cond_true]at hz3
      iterate 3 refine rS ?_
      exact⟨_,[5,1],hlt3,wt,hz3,sm⟩
     ·simp only[hb,cond_false]at hz3
      refine rS ?_;refine AWP.cond rfl (fun hb => ?_) (fun hb => ?_)
      ·simp only[hb,cond_true]at hz3
       iterate 3 refine rS ?_
       exact⟨_,[5,1],hlt3,wt,hz3,sm⟩
      ·simp only[hb,cond_false]at hz3
       iterate 2 refine rS ?_
       exact⟨_,[3,1],hlt3,wt,hz3,sm⟩
    ·obtain rfl:i3=((([1]:List Int).getD i2 default)).toNat:=ot
     rw[yj (Nat.le_refl _)]at hz3;subst hz3;dsimp only at hz2;refine AWP.exit ?_;refine yb ?_;refine rS ?_;exact⟨_,[0,1],hlt2,by(have h9:=hg1 i2;omega),hz2,sm⟩
   ·obtain rfl:i2=1:=ot
    rw[yj (Nat.le_refl _)]at hz2;subst hz2;dsimp only at hR;refine AWP.exit ?_;refine yb ?_;refine rS ?_;refine AWP.cond rfl (fun hb => ?_) (fun hb => ?_)
    ·replace hR:=ct hR
     iterate 2 refine rS ?_
     refine AWP.ret ?_;subst hR;exact es
    ·replace hR:=cf hR
     refine rS ?_;refine AWP.ret ?_;subst hR;exact es
  ·replace hR:=cf hR
   refine rS ?_;refine AWP.block ?_;refine AWP.lensS 6 rfl (fun hLn4 => ?_);generalize hz4:yf (ygq a0) (a0.Group.length-0) 0 ([]:List Int)=z4 at hR;refine AWP.range (ygq a0) (fun i4 s4=>⟨[(0,.ep (eCharacter a0)),(3,.ref 0 1 0 s4.length),(6,encL 1 yl a0.Group),(7,.int .i64 (i4:Int))],[.arr 2 1 s4.length (fun j=>yl (s4.getD j default))]⟩) (fun i4 s4=>s4.length<=18 * i4) (a0.Group.length) 0 ([]:List Int) [0] hz4 ot wt sm ?_;clear hz4;intro i4 s4 hi4 hW4 hz4;refine rS ?_;refine AWP.cond rfl (fun hb => ?_) (fun hb => ?_)
   ·have hlt4:i4<a0.Group.length:=ot
    rw[yk hlt4]at hz4;simp only[ygq]at hz4;refine rS ?_;refine AWP.block ?_;generalize hz5:yf (yzp a0 i4 s4) (((a0.Group.getD i4 default)).toNat-0) 0 s4=z5 at hz4;refine AWP.range (yzp a0 i4 s4) (fun i5 s5=>⟨[(0,.ep (eCharacter a0)),(3,.ref 0 1 0 s5.length),(6,encL 1 yl a0.Group),(7,.int .i64 (i4:Int)),(8,.int .i64 (i5:Int))],[.arr 2 1 s5.length (fun j=>yl (s5.getD j default))]⟩) (fun i5 s5=>s5.length<=s4.length+2 * i5/\s5.length<=18 * i4+2 * i5) (((a0.Group.getD i4 default)).toNat) 0 s4 [0] hz5 ot wt sm ?_;clear hz5;intro i5 s5 hi5 hW5 hz5;refine rS ?_;refine AWP.cond rfl (fun hb => ?_) (fun hb => ?_)
    ·have hlt5:i5<((a0.Group.getD i4 default)).toNat:=ot
     rw[yk hlt5]at hz5;simp only[yzp]at hz5;refine rS ?_;refine AWP.cond rfl (fun hb => ?_) (fun hb => ?_)
     ·simp only[hb,cond_true]at hz5
      iterate 3 refine rS ?_
      exact⟨_,[4],hlt5,wt,hz5,sm⟩
     ·simp only[hb,cond_false]at hz5
      refine rS ?_;refine AWP.cond rfl (fun hb => ?_) (fun hb => ?_)
      ·simp only[hb,cond_true]at hz5
       iterate 3 refine rS ?_
       exact⟨_,[4],hlt5,wt,hz5,sm⟩
      ·simp only[hb,cond_false]at hz5
       iterate 2 refine rS ?_
       exact⟨_,[2],hlt5,wt,hz5,sm⟩
    ·obtain rfl:i5=((a0.Group.getD i4 default)).toNat:=ot
     rw[yj (Nat.le_refl _)]at hz5;subst hz5;dsimp only at hz4;refine AWP.exit ?_;refine yb ?_;refine rS ?_;exact⟨_,[0],hlt4,by(have h9:=hg9 i4;omega),hz4,sm⟩
   ·obtain rfl:i4=a0.Group.length:=ot
    rw[yj (Nat.le_refl _)]at hz4;subst hz4;dsimp only at hR;refine AWP.exit ?_;refine yb ?_;refine rS ?_;refine AWP.cond rfl (fun hb => ?_) (fun hb => ?_)
    ·replace hR:=ct hR
     iterate 2 refine rS ?_
     refine AWP.ret ?_;subst hR;exact es
    ·replace hR:=cf hR
     refine rS ?_;refine AWP.ret ?_;subst hR;exact es
end N228
def D_zg : DF
 | [x0]=>some (ownL 2 1 yl (zg (rdP yd x0)),false,[wP eCharacter yd x0,bdCharacter (rdP yd x0),(rdP yd x0).Group.length<=4,∀ v∈(rdP yd x0).Group,v<=9,(rdP yd x0).Kind=8->(rdP yd x0).Letter.length=1/\65<=((rdP yd x0).Letter.getD 0 0).toNat/\((rdP yd x0).Letter.getD 0 0).toNat<=90])
 | _=>none
theorem yey:OkD Tryz.prog 228 D_zg:=by unfold D_zg;exact dk N228.den
def zmf (a0:Character):Int:=
 (bif (a0.Kind == 6)then 20 else(bif (a0.Kind == 7)then 10 else(bif (a0.Kind == 8)then 30 else(bif decide (1<(a0.Group.length:Int))then IntKind.wrap .i64 ((IntKind.wrap .i64 ((zbc a0.Kind)+5))+20)else IntKind.wrap .i64 ((zbc a0.Kind)+5)))))
namespace N229
theorem DD:DOk Tryz.prog (Go.Ab.DD [(233,dP D_zbc)]):=ya y8n.e <| yc _
theorem dn:type_of% (@D_zbc.eq_1):=by and_intros<;>intros<;>rfl
theorem den (a0:Character)  : Den Tryz.prog 229 [.ep (eCharacter a0)] (.int .i64 (zmf a0)):=by
 generalize hR:zmf a0=r;unfold zmf at hR;refine di Tryz.func229 Tryz.ntmps229 Tryz.results229 ?_;intro c hL hc hk;obtain⟨hL0,_⟩:=hL;have hw0:bwCharacter a0:=yn a0 hL0;clear hL0;simp only[pars,Nat.zero_add];iterate 3 refine rS ?_
 refine AWP.cond rfl (fun hb => ?_) (fun hb => ?_)
 ·replace hR:=ct hR
  refine rS ?_;refine AWP.ret ?_;subst hR;exact es
 ·replace hR:=cf hR
  refine rS ?_;refine AWP.cond rfl (fun hb => ?_) (fun hb => ?_)
  ·replace hR:=ct hR
   refine rS ?_;refine AWP.ret ?_;subst hR;exact es
  ·replace hR:=cf hR
   refine rS ?_;refine AWP.cond rfl (fun hb => ?_) (fun hb => ?_)
   ·replace hR:=ct hR
    refine rS ?_;refine AWP.ret ?_;subst hR;exact es
   ·replace hR:=cf hR
    iterate 2 refine rS ?_
    refine AWP.cond rfl (fun hb => ?_) (fun hb => ?_)
    ·replace hR:=ct hR
     iterate 2 refine rS ?_
     refine AWP.ret ?_;subst hR;exact es
    ·replace hR:=cf hR
     refine rS ?_;refine AWP.ret ?_;subst hR;exact es
end N229
def D_zmf : DF
 | [x0]=>some (.int .i64 (zmf (rdP yd x0)),false,[wP eCharacter yd x0])
 | _=>none
theorem ydw:OkD Tryz.prog 229 D_zmf:=by unfold D_zmf;exact dk N229.den
def zxe (a0:Character):Int:=
 (bif (znd a0)then 0 else(bif (a0.Kind == 3)then 20 else IntKind.wrap .i64 ((zgd (zg a0))+(zmf a0))))
namespace N171
theorem DD:DOk Tryz.prog (Go.Ab.DD [(170,dP D_znd),(227,dP D_zgd),(228,dP D_zg),(229,dP D_zmf)]):=ya yno.e <| ya y2v.e <| ya yey.e <| ya ydw.e <| yc _
theorem dn:type_of% (And.intro @D_znd.eq_1 <| And.intro @D_zgd.eq_1 <| And.intro @D_zg.eq_1 <| @D_zmf.eq_1):=by and_intros<;>intros<;>rfl
theorem den (a0:Character) (hb0:bdCharacter a0) (hp0:a0.Group.length<=4) (hp1:∀ v∈a0.Group,v<=9) (hp2:a0.Kind=8->a0.Letter.length=1/\65<=(a0.Letter.getD 0 0).toNat/\(a0.Letter.getD 0 0).toNat<=90):Den Tryz.prog 171 [.ep (eCharacter a0)] (.int .i64 (zxe a0)):=by
 generalize hR:zxe a0=r;unfold zxe at hR;refine di Tryz.func171 Tryz.ntmps171 Tryz.results171 ?_;intro c hL hc hk;obtain⟨hL0,_⟩:=hL;have hw0:bwCharacter a0:=yn a0 hL0;clear hL0;simp only[pars,Nat.zero_add];iterate 2 refine rS ?_
 refine AWP.cond rfl (fun hb => ?_) (fun hb => ?_)
 ·replace hR:=ct hR
  refine rS ?_;refine AWP.ret ?_;subst hR;exact es
 ·replace hR:=cf hR
  refine rS ?_;refine AWP.cond rfl (fun hb => ?_) (fun hb => ?_)
  ·replace hR:=ct hR
   refine rS ?_;refine AWP.ret ?_;subst hR;exact es
  ·replace hR:=cf hR
   refine rS ?_;refine AWP.ret ?_;subst hR;exact es
end N171
def D_zxe : DF
 | [x0]=>some (.int .i64 (zxe (rdP yd x0)),false,[wP eCharacter yd x0,bdCharacter (rdP yd x0),(rdP yd x0).Group.length<=4,∀ v∈(rdP yd x0).Group,v<=9,(rdP yd x0).Kind=8->(rdP yd x0).Letter.length=1/\65<=((rdP yd x0).Letter.getD 0 0).toNat/\((rdP yd x0).Letter.getD 0 0).toNat<=90])
 | _=>none
theorem y8t:OkD Tryz.prog 171 D_zxe:=by unfold D_zxe;exact dk N171.den
def zye (a0:Sector):Bool:=
 ((zb a0.From 0 359) && (zb a0.To 0 359))
namespace N230
theorem DD:DOk Tryz.prog (Go.Ab.DD [(81,dP D_zb)]):=ya yxc.e <| yc _
theorem dn:type_of% (@D_zb.eq_1):=by and_intros<;>intros<;>rfl
theorem ol:type_of% (@zb.eq_1):=@zb.eq_1
theorem den (a0:Sector)  : Den Tryz.prog 230 [.ep (eSector a0)] (.bool (zye a0)):=by
 generalize hR:zye a0=r;unfold zye at hR;refine di Tryz.func230 Tryz.ntmps230 Tryz.results230 ?_;intro c hL hc hk;obtain⟨hL0,_⟩:=hL;have hw0:bwSector a0:=yq a0 hL0;clear hL0;simp only[pars,Nat.zero_add];iterate 2 refine rS ?_
 refine AWP.ret ?_;subst hR;exact es
end N230
def D_zye : DF
 | [x0]=>some (.bool (zye (rdP ym x0)),false,[wP eSector ym x0])
 | _=>none
theorem ypw:OkD Tryz.prog 230 D_zye:=by unfold D_zye;exact dk N230.den
def zze (a0:(List UInt8)):Bool:=
 ((((a0 == [87]) || (a0 == [82])) || (a0 == [71])) || (a0 == [89]))
namespace N231
theorem DD:DOk Tryz.prog (Go.Ab.DD []):=yc _
theorem den (a0:(List UInt8))  : Den Tryz.prog 231 [.str a0] (.bool (zze a0)):=by
 generalize hR:zze a0=r;unfold zze at hR;refine di Tryz.func231 Tryz.ntmps231 Tryz.results231 ?_;intro c hL hc hk;obtain⟨hL0,_⟩:=hL;have hw0:a0.length<9223372036854775808:=Nat.lt_succ_of_le hL0;clear hL0;simp only[pars,Nat.zero_add];iterate 2 refine rS ?_
 refine AWP.ret ?_;subst hR;exact es
end N231
def D_zze : DF
 | [x0]=>some (.bool (zze (rdS x0)),false,[wS x0])
 | _=>none
theorem y2u:OkD Tryz.prog 231 D_zze:=by unfold D_zze;exact dk N231.den
def zvc (a0:Sector):Bool:=
 ((zye a0) && (zze a0.Color))
namespace N172
theorem DD:DOk Tryz.prog (Go.Ab.DD [(230,dP D_zye),(231,dP D_zze)]):=ya ypw.e <| ya y2u.e <| yc _
theorem dn:type_of% (And.intro @D_zye.eq_1 <| @D_zze.eq_1):=by and_intros<;>intros<;>rfl
theorem den (a0:Sector)  : Den Tryz.prog 172 [.ep (eSector a0)] (.bool (zvc a0)):=by
 generalize hR:zvc a0=r;unfold zvc at hR;refine di Tryz.func172 Tryz.ntmps172 Tryz.results172 ?_;intro c hL hc hk;obtain⟨hL0,_⟩:=hL;have hw0:bwSector a0:=yq a0 hL0;clear hL0;simp only[pars,Nat.zero_add];iterate 2 refine rS ?_
 refine AWP.ret ?_;subst hR;exact es
end N172
def D_zvc : DF
 | [x0]=>some (.bool (zvc (rdP ym x0)),false,[wP eSector ym x0])
 | _=>none
theorem ydu:OkD Tryz.prog 172 D_zvc:=by unfold D_zvc;exact dk N172.den
def zaf (a0:Sector):Int:=
 (bif (((IntKind.wrap .i64 ((IntKind.wrap .i64 (a0.To-a0.From))+360)).tmod 360) == 0)then 360 else(IntKind.wrap .i64 ((IntKind.wrap .i64 (a0.To-a0.From))+360)).tmod 360)
namespace N173
theorem DD:DOk Tryz.prog (Go.Ab.DD []):=yc _
theorem den (a0:Sector)  : Den Tryz.prog 173 [.ep (eSector a0)] (.int .i64 (zaf a0)):=by
 generalize hR:zaf a0=r;unfold zaf at hR;refine di Tryz.func173 Tryz.ntmps173 Tryz.results173 ?_;intro c hL hc hk;obtain⟨hL0,_⟩:=hL;have hw0:bwSector a0:=yq a0 hL0;clear hL0;simp only[pars,Nat.zero_add];refine rS ?_;refine rD 11 ?_;refine rS ?_;refine AWP.cond rfl (fun hb => ?_) (fun hb => ?_)
 ·replace hR:=ct hR
  refine rS ?_;refine AWP.ret ?_;subst hR;exact es
 ·replace hR:=cf hR
  refine rS ?_;refine AWP.ret ?_;subst hR;exact es
end N173
def D_zaf : DF
 | [x0]=>some (.int .i64 (zaf (rdP ym x0)),false,[wP eSector ym x0])
 | _=>none
theorem y4t:OkD Tryz.prog 173 D_zaf:=by unfold D_zaf;exact dk N173.den
def yur (a0:(List Sector)) (i1:Nat) (s1:Unit):Except (Bool) (Unit):=
 (bif ((!(zvc (a0.getD i1 default))) || (decide (0<(i1:Int)) && decide (((a0.getD i1 default).From)<=((a0.getD ((IntKind.wrap .i64 ((i1:Int)-1)).toNat) default).From))))then .error false else .ok ())
def ycn (a0:(List Sector)) (s1:Unit) (s2:Int):Except (Sum (Bool) (Int)) (Int):=
 (bif (decide (s2<(a0.length:Int)) && decide (1<(a0.length:Int)))then(bif decide (((IntKind.wrap .i64 ((IntKind.wrap .i64 (((a0.getD (((IntKind.wrap .i64 (s2+1)).tmod (a0.length:Int)).toNat) default).From)-((a0.getD ((s2).toNat) default).From)))+360)).tmod 360)<(zaf (a0.getD ((s2).toNat) default)))then .error (.inl false)else .ok (IntKind.wrap .i64 (s2+1)))else .error (.inr s2))
def zx (a0:(List Sector)):Bool:=
 (bif decide (12<(a0.length:Int))then false else(match yf (yur a0) (a0.length-0) 0 ()with|.error e=>e|.ok s1=>(match yfc (ycn a0 s1) ((a0.length-((0:Int)).toNat)+1) 0 with|.error (.inl e)=>e|.error (.inr s2)=>true|.ok _=>default)))
namespace N121
theorem DD:DOk Tryz.prog (Go.Ab.DD [(172,dP D_zvc),(173,dP D_zaf)]):=ya ydu.e <| ya y4t.e <| yc _
theorem dn:type_of% (And.intro @D_zvc.eq_1 <| @D_zaf.eq_1):=by and_intros<;>intros<;>rfl
theorem o0 {p:Prop} (h:p:=by(first|(have hb2:=hb;simp only[Bool.and_eq_true,decide_eq_true_eq]at hb2;have h9:=y4z hW2.1 hb2.1 (by omega);and_intros<;>first|omega|exact h9.1|exact h9.2));first|done|fail):p:=h
theorem den (a0:(List Sector))  : Den Tryz.prog 121 [encL 3 eSector a0] (.bool (zx a0)):=by
 generalize hR:zx a0=r;unfold zx at hR;refine di Tryz.func121 Tryz.ntmps121 Tryz.results121 ?_;intro c hL hc hk;obtain⟨hL0,_⟩:=hL;have hw0:a0.length<9223372036854775808:=Nat.lt_succ_of_le (ye hL0).1;have hw1:∀ v∈a0,bwSector v:=fun v hv=>yq v ((ye hL0).2 v hv)
 clear hL0;simp only[pars,Nat.zero_add];iterate 3 refine rS ?_
 refine AWP.cond rfl (fun hb => ?_) (fun hb => ?_)
 ·replace hR:=ct hR
  refine rS ?_;refine AWP.ret ?_;subst hR;exact es
 ·replace hR:=cf hR
  refine rS ?_;refine AWP.block ?_;generalize hz1:yf (yur a0) (a0.length-0) 0 ()=z1 at hR;refine AWP.range (yur a0) (fun i1 s1=>⟨[(0,encL 3 eSector a0),(3,.int .i64 (a0.length:Int)),(4,.int .i64 (i1:Int))],[]⟩) (fun i1 s1=>True) (a0.length) 0 () [] hz1 ot wt sm ?_;clear hz1;intro i1 s1 hi1 hW1 hz1;refine rS ?_;refine AWP.cond rfl (fun hb => ?_) (fun hb => ?_)
  ·have hlt1:i1<a0.length:=ot
   rw[yk hlt1]at hz1;simp only[yur]at hz1;refine rD 23 ?_;refine AWP.cond rfl (fun hb => ?_) (fun hb => ?_)
   ·simp only[hb,cond_true]at hz1
    refine rS ?_;refine AWP.ret ?_;subst hz1;dsimp only at hR;subst hR;exact es
   ·simp only[hb,cond_false]at hz1
    refine rS ?_;exact⟨_,[],hlt1,wt,hz1,sm⟩
  ·obtain rfl:i1=a0.length:=ot
   rw[yj (Nat.le_refl _)]at hz1;subst hz1;dsimp only at hR;refine AWP.exit ?_;refine yb ?_;refine rS ?_;refine AWP.block ?_;generalize hz2:yfc (ycn a0 s1) ((a0.length-((0:Int)).toNat)+1) 0=z2 at hR;refine AWP.whileW (ycn a0 s1) (fun s2=>⟨[(0,encL 3 eSector a0),(3,.int .i64 (a0.length:Int)),(5,.int .i64 s2)],[]⟩) (fun s2=>0<=s2/\s2<=a0.length) (fun s2=>a0.length-(s2).toNat) ((a0.length-((0:Int)).toNat)+1) 0 [] hz2 m0 wt sm ?_;clear hz2;intro s2 k2 hW2 hm2 hz2;simp only[ycn]at hz2;refine rS ?_;refine AWP.cond rfl (fun hb => ?_) (fun hb => ?_)
   ·simp only[hb,cond_true]at hz2
    refine rD 21 ?_;refine AWP.cond rfl (fun hb => ?_) (fun hb => ?_)
    ·simp only[hb,cond_true]at hz2
     refine rS ?_;refine AWP.ret ?_;subst hz2;dsimp only at hR;subst hR;exact es
    ·simp only[hb,cond_false]at hz2
     refine rS ?_;exact⟨_,[],ms,wt,hz2,sm⟩
   ·simp only[hb,cond_false]at hz2
    refine AWP.exit ?_;refine yb ?_;subst hz2;dsimp only at hR;refine rS ?_;refine AWP.ret ?_;subst hR;exact es
end N121
def D_zx : DF
 | [x0]=>some (.bool (zx (rdL ym x0)),false,[wL 3 eSector ym x0])
 | _=>none
theorem yhy:OkD Tryz.prog 121 D_zx:=by unfold D_zx;exact dk N121.den
def yfm (a0:(List Sector)) (i1:Nat) (s1:List UInt8) (i2:Nat) (s2:List UInt8):Except (Sum ((List UInt8)) (List UInt8)) (List UInt8):=
 (bif (((a0.getD i2 default).Color) == ([[87],[82],[71],[89]].getD i1 default))then .error (.inr (s2++([[87],[82],[71],[89]].getD i1 default)))else .ok s2)
def ynj (a0:(List Sector)) (i1:Nat) (s1:List UInt8):Except ((List UInt8)) (List UInt8):=
 (match yf (yfm a0 i1 s1) (a0.length-0) 0 s1 with|.error (.inl e)=>.error e|.error (.inr s2)=>.ok s2|.ok s2=>.ok s2)
def zfb (a0:(List Sector)):(List UInt8):=
 (match yf (ynj a0) (4-0) 0 []with|.error e=>e|.ok s1=>s1)
namespace N122
theorem DD:DOk Tryz.prog (Go.Ab.DD []):=yc _
theorem o0 {p:Prop} (h:p:=by(first|(have h4:=hq4 i1;have h1:=hW1;have h2:=hW2;and_intros<;>omega));first|done|fail):p:=h
theorem lx {p:Prop} (h:p:=by(exact lxx);first|done|fail):p:=h
theorem den (a0:(List Sector)) (hb0:a0.length<1099511627776) (hb1:∀ v∈a0,bdSector v):Den Tryz.prog 122 [encL 3 eSector a0] (.str (zfb a0)):=by
 generalize hR:zfb a0=r;unfold zfb at hR;refine di Tryz.func122 Tryz.ntmps122 Tryz.results122 ?_;intro c hL hc hk;obtain⟨hL0,_⟩:=hL;have hw0:a0.length<9223372036854775808:=Nat.lt_succ_of_le (ye hL0).1;have hw1:∀ v∈a0,bwSector v:=fun v hv=>yq v ((ye hL0).2 v hv)
 clear hL0;simp only[pars,Nat.zero_add];have hq4:∀ i:Nat,(([[87],[82],[71],[89]]:List (List UInt8)).getD i default).length<=1:=fun i=>by rcases i with _|_|_|_|i<;>first|exact Nat.le_refl _|exact Nat.zero_le _
 iterate 4 refine rS ?_
 refine AWP.block ?_;generalize hz1:yf (ynj a0) (4-0) 0 []=z1 at hR;refine AWP.range (ynj a0) (fun i1 s1=>⟨[(0,encL 3 eSector a0),(3,.str s1),(4,.ref 0 1 0 4),(5,.int .i64 (i1:Int))],[.arr 9 1 [[87],[82],[71],[89]].length (fun j=>eS ([[87],[82],[71],[89]].getD j default))]⟩) (fun i1 s1=>s1.length<=i1) (4) 0 [] [0] hz1 ot (by(simp)) sm ?_;clear hz1;intro i1 s1 hi1 hW1 hz1;refine rS ?_;refine AWP.cond rfl (fun hb => ?_) (fun hb => ?_)
 ·have hlt1:i1<4:=ot
  rw[yk hlt1]at hz1;simp only[ynj]at hz1;refine rS ?_;refine AWP.block ?_;generalize hz2:yf (yfm a0 i1 s1) (a0.length-0) 0 s1=z2 at hz1;refine AWP.range (yfm a0 i1 s1) (fun i2 s2=>⟨[(0,encL 3 eSector a0),(3,.str s2),(4,.ref 0 1 0 4),(5,.int .i64 (i1:Int)),(6,.int .i64 (i2:Int))],[.arr 9 1 [[87],[82],[71],[89]].length (fun j=>eS ([[87],[82],[71],[89]].getD j default))]⟩) (fun i2 s2=>s2.length<=i1) (a0.length) 0 s1 [0] hz2 ot (by(exact hW1)) sm ?_;clear hz2;intro i2 s2 hi2 hW2 hz2;refine rS ?_;refine AWP.cond rfl (fun hb => ?_) (fun hb => ?_)
  ·have hlt2:i2<a0.length:=ot
   rw[yk hlt2]at hz2;simp only[yfm]at hz2;refine rD 9 ?_;refine AWP.cond rfl (fun hb => ?_) (fun hb => ?_)
   ·simp only[hb,cond_true]at hz2
    refine rS ?_;refine AWP.exit ?_;refine ypl rfl ?_;refine yb ?_;subst hz2;dsimp only at hz1;refine rS ?_;exact⟨_,[0],hlt1,by(have h4:=hq4 i1;simp only[ln]at *;omega),hz1,sm⟩
   ·simp only[hb,cond_false]at hz2
    refine rS ?_;exact⟨_,[0],hlt2,by(first|exact hW2|assumption),hz2,sm⟩
  ·obtain rfl:i2=a0.length:=ot
   rw[yj (Nat.le_refl _)]at hz2;subst hz2;dsimp only at hz1;refine AWP.exit ?_;refine yb ?_;refine rS ?_;exact⟨_,[0],hlt1,by(have h4:=hq4 i1;simp only[ln]at *;omega),hz1,sm⟩
 ·obtain rfl:i1=4:=ot
  rw[yj (Nat.le_refl _)]at hz1;subst hz1;dsimp only at hR;refine AWP.exit ?_;refine yb ?_;refine rS ?_;refine AWP.ret ?_;subst hR;exact es
end N122
def D_zfb : DF
 | [x0]=>some (.str (zfb (rdL ym x0)),false,[wL 3 eSector ym x0,(rdL ym x0).length<1099511627776,∀ v∈(rdL ym x0),bdSector v])
 | _=>none
theorem ypu:OkD Tryz.prog 122 D_zfb:=by unfold D_zfb;exact dk N122.den
def zjc (a0:Int):Bool:=
 (zb a0 1 9)
namespace N52
theorem DD:DOk Tryz.prog (Go.Ab.DD [(81,dP D_zb)]):=ya yxc.e <| yc _
theorem dn:type_of% (@D_zb.eq_1):=by and_intros<;>intros<;>rfl
theorem ol:type_of% (@zb.eq_1):=@zb.eq_1
theorem den (a0:Int)  : Den Tryz.prog 52 [.int .i64 a0] (.bool (zjc a0)):=by
 generalize hR:zjc a0=r;unfold zjc at hR;refine di Tryz.func52 Tryz.ntmps52 Tryz.results52 ?_;intro c hL hc hk;clear hL;simp only[pars,Nat.zero_add];iterate 2 refine rS ?_
 refine AWP.ret ?_;subst hR;exact es
end N52
def D_zjc : DF
 | [x0]=>some (.bool (zjc (rdI x0)),false,[wI .i64 x0])
 | _=>none
theorem y9u:OkD Tryz.prog 52 D_zjc:=by unfold D_zjc;exact dk N52.den
def zke (a0:Int):(List UInt8):=
 (([[],[82],[71],[66,89],[66,89,66],[89,66],[89,66,89],[66,82,66],[82,87],[89]]:List (List UInt8)).getD ((a0).toNat) default)
namespace N53
theorem DD:DOk Tryz.prog (Go.Ab.DD []):=yc _
theorem lx {p:Prop} (h:p:=by(exact lxx);first|done|fail):p:=h
theorem den (a0:Int) (hp0:0<=a0) (hp1:a0<=9):Den Tryz.prog 53 [.int .i64 a0] (.str (zke a0)):=by
 generalize hR:zke a0=r;unfold zke at hR;refine di Tryz.func53 Tryz.ntmps53 Tryz.results53 ?_;intro c hL hc hk;clear hL;simp only[pars,Nat.zero_add];iterate 2 refine rS ?_
 refine AWP.ret ?_;subst hR;exact es
end N53
def D_zke : DF
 | [x0]=>some (.str (zke (rdI x0)),false,[wI .i64 x0,0<=(rdI x0),(rdI x0)<=9])
 | _=>none
theorem yau:OkD Tryz.prog 53 D_zke:=by unfold D_zke;exact dk N53.den
def zo (a0:Int):(List (List UInt8)):=
 (bif (a0 == 1)then[[99,97,110],[112,105,108,108,97,114],[115,112,97,114]]else(bif (a0 == 2)then[[99,111,110,101],[112,105,108,108,97,114],[115,112,97,114]]else(bif (a0 == 8)then[[115,112,104,101,114,101],[112,105,108,108,97,114],[115,112,97,114]]else(bif (a0 == 9)then[[99,97,110],[99,111,110,101],[112,105,108,108,97,114],[115,112,97,114],[115,112,104,101,114,101]]else[[112,105,108,108,97,114],[115,112,97,114]]))))
namespace N54
theorem DD:DOk Tryz.prog (Go.Ab.DD []):=yc _
theorem lx {p:Prop} (h:p:=by(exact lxx);first|done|fail):p:=h
theorem den (a0:Int)  : Den Tryz.prog 54 [.int .i64 a0] (ownL 9 1 eS (zo a0)):=by
 generalize hR:zo a0=r;unfold zo at hR;refine di Tryz.func54 Tryz.ntmps54 Tryz.results54 ?_;intro c hL hc hk;clear hL;simp only[pars,Nat.zero_add];iterate 3 refine rS ?_
 refine AWP.cond rfl (fun hb => ?_) (fun hb => ?_)
 ·replace hR:=ct hR
  refine rS ?_;refine AWP.ret ?_;subst hR;exact es
 ·replace hR:=cf hR
  refine rS ?_;refine AWP.cond rfl (fun hb => ?_) (fun hb => ?_)
  ·replace hR:=ct hR
   refine rS ?_;refine AWP.ret ?_;subst hR;exact es
  ·replace hR:=cf hR
   refine rS ?_;refine AWP.cond rfl (fun hb => ?_) (fun hb => ?_)
   ·replace hR:=ct hR
    refine rS ?_;refine AWP.ret ?_;subst hR;exact es
   ·replace hR:=cf hR
    refine rS ?_;refine AWP.cond rfl (fun hb => ?_) (fun hb => ?_)
    ·replace hR:=ct hR
     refine rS ?_;refine AWP.ret ?_;subst hR;exact es
    ·replace hR:=cf hR
     refine rS ?_;refine AWP.ret ?_;subst hR;exact es
end N54
def D_zo : DF
 | [x0]=>some (ownL 9 1 eS (zo (rdI x0)),false,[wI .i64 x0])
 | _=>none
theorem yvy:OkD Tryz.prog 54 D_zo:=by unfold D_zo;exact dk N54.den
def zle (a0:Int):(List UInt8):=
 (([[],[99,97,110],[99,111,110,101],[117,112],[98,97,115,101],[100,111,119,110],[112,111,105,110,116],[98,97,108,108,115],[98,97,108,108],[99,114,111,115,115]]:List (List UInt8)).getD ((a0).toNat) default)
namespace N55
theorem DD:DOk Tryz.prog (Go.Ab.DD []):=yc _
theorem lx {p:Prop} (h:p:=by(exact lxx);first|done|fail):p:=h
theorem den (a0:Int) (hp0:0<=a0) (hp1:a0<=9):Den Tryz.prog 55 [.int .i64 a0] (.str (zle a0)):=by
 generalize hR:zle a0=r;unfold zle at hR;refine di Tryz.func55 Tryz.ntmps55 Tryz.results55 ?_;intro c hL hc hk;clear hL;simp only[pars,Nat.zero_add];iterate 2 refine rS ?_
 refine AWP.ret ?_;subst hR;exact es
end N55
def D_zle : DF
 | [x0]=>some (.str (zle (rdI x0)),false,[wI .i64 x0,0<=(rdI x0),(rdI x0)<=9])
 | _=>none
theorem ysw:OkD Tryz.prog 55 D_zle:=by unfold D_zle;exact dk N55.den
def yhh (a0:Mark) (i1:Nat) (s1:Unit):Except (Bool) (Unit):=
 (bif (((zo a0.Kind).getD i1 default) == a0.Shape)then .error true else .ok ())
def znc (a0:Mark):Bool:=
 (bif (a0.Kind == 0)then(a0.Kind == 0 && (a0.Colors == [] && (a0.Shape == [] && a0.Topmark == [])))else(bif (((!(zjc a0.Kind)) || (a0.Colors != (zke a0.Kind))) || ((a0.Topmark != []) && (a0.Topmark != (zle a0.Kind))))then false else(match yf (yhh a0) (((zo a0.Kind).length)-0) 0 ()with|.error e=>e|.ok s1=>false)))
namespace N168
theorem DD:DOk Tryz.prog (Go.Ab.DD [(52,dP D_zjc),(53,dP D_zke),(54,dP D_zo),(55,dP D_zle)]):=ya y9u.e <| ya yau.e <| ya yvy.e <| ya ysw.e <| yc _
theorem dn:type_of% (And.intro @D_zjc.eq_1 <| And.intro @D_zke.eq_1 <| And.intro @D_zo.eq_1 <| @D_zle.eq_1):=by and_intros<;>intros<;>rfl
theorem o0 {p:Prop} (h:p:=by(first|(simp only[zjc,zb];refine⟨fun h => ?_,fun h _ => ?_⟩<;>(simp at h;omega)));first|done|fail):p:=h
theorem den (a0:Mark)  : Den Tryz.prog 168 [.ep (eMark a0)] (.bool (znc a0)):=by
 generalize hR:znc a0=r;unfold znc at hR;refine di Tryz.func168 Tryz.ntmps168 Tryz.results168 ?_;intro c hL hc hk;obtain⟨hL0,_⟩:=hL;have hw0:bwMark a0:=yrc a0 hL0;clear hL0;simp only[pars,Nat.zero_add];have hs5:(zo a0.Kind).length<=5:=by unfold zo;simp only[Bool.cond_eq_ite];(repeat' split)<;>simp
 iterate 2 refine rS ?_
 refine AWP.cond rfl (fun hb => ?_) (fun hb => ?_)
 ·replace hR:=ct hR
  refine rS ?_;refine AWP.ret ?_;subst hR;exact es
 ·replace hR:=cf hR
  refine rD 37 ?_;refine AWP.cond rfl (fun hb => ?_) (fun hb => ?_)
  ·replace hR:=ct hR
   refine rS ?_;refine AWP.ret ?_;subst hR;exact es
  ·replace hR:=cf hR
   iterate 2 refine rS ?_
   refine AWP.block ?_;generalize hz1:yf (yhh a0) (((zo a0.Kind).length)-0) 0 ()=z1 at hR;refine AWP.range (yhh a0) (fun i1 s1=>⟨[(0,.ep (eMark a0)),(3,.ref 0 1 0 ((zo a0.Kind).length)),(4,.int .i64 (i1:Int))],[.arr 9 1 (zo a0.Kind).length (fun j=>eS ((zo a0.Kind).getD j default))]⟩) (fun i1 s1=>True) (((zo a0.Kind).length)) 0 () [0] hz1 ot wt sm ?_;clear hz1;intro i1 s1 hi1 hW1 hz1;refine rS ?_;refine AWP.cond rfl (fun hb => ?_) (fun hb => ?_)
   ·have hlt1:i1<((zo a0.Kind).length):=ot
    rw[yk hlt1]at hz1;simp only[yhh]at hz1;refine rD 8 ?_;refine AWP.cond rfl (fun hb => ?_) (fun hb => ?_)
    ·simp only[hb,cond_true]at hz1
     refine rS ?_;refine AWP.ret ?_;subst hz1;dsimp only at hR;subst hR;exact es
    ·simp only[hb,cond_false]at hz1
     refine rS ?_;exact⟨_,[0],hlt1,wt,hz1,sm⟩
   ·obtain rfl:i1=((zo a0.Kind).length):=ot
    rw[yj (Nat.le_refl _)]at hz1;subst hz1;dsimp only at hR;refine AWP.exit ?_;refine yb ?_;refine rS ?_;refine AWP.ret ?_;subst hR;exact es
end N168
def D_znc : DF
 | [x0]=>some (.bool (znc (rdP y7d x0)),false,[wP eMark y7d x0])
 | _=>none
theorem yaw:OkD Tryz.prog 168 D_znc:=by unfold D_znc;exact dk N168.den
def zud (a0:Mark):Bool:=
 (znc a0)
namespace N118
theorem DD:DOk Tryz.prog (Go.Ab.DD [(168,dP D_znc)]):=ya yaw.e <| yc _
theorem dn:type_of% (@D_znc.eq_1):=by and_intros<;>intros<;>rfl
theorem den (a0:Mark)  : Den Tryz.prog 118 [.agg (eMark a0)] (.bool (zud a0)):=by
 generalize hR:zud a0=r;unfold zud at hR;refine di Tryz.func118 Tryz.ntmps118 Tryz.results118 ?_;intro c hL hc hk;obtain⟨hL0,_⟩:=hL;have hw0:bwMark a0:=yrc a0 hL0;clear hL0;simp only[pars,Nat.zero_add];iterate 2 refine rS ?_
 refine AWP.ret ?_;subst hR;exact es
end N118
def D_zud : DF
 | [x0]=>some (.bool (zud (rdG y7d x0)),false,[wG eMark y7d x0])
 | _=>none
theorem yhv:OkD Tryz.prog 118 D_zud:=by unfold D_zud;exact dk N118.den
def zod (a0:Character):Bool:=
 (((((a0.Kind == 0) && ((a0.Group.length:Int) == 0)) && (a0.Letter == [])) && (a0.Colors == [])) && (a0.Period == 0))
namespace N119
theorem DD:DOk Tryz.prog (Go.Ab.DD []):=yc _
theorem den (a0:Character)  : Den Tryz.prog 119 [.ep (eCharacter a0)] (.bool (zod a0)):=by
 generalize hR:zod a0=r;unfold zod at hR;refine di Tryz.func119 Tryz.ntmps119 Tryz.results119 ?_;intro c hL hc hk;obtain⟨hL0,_⟩:=hL;have hw0:bwCharacter a0:=yn a0 hL0;clear hL0;simp only[pars,Nat.zero_add];iterate 2 refine rS ?_
 refine AWP.ret ?_;subst hR;exact es
end N119
def D_zod : DF
 | [x0]=>some (.bool (zod (rdP yd x0)),false,[wP eCharacter yd x0])
 | _=>none
theorem yrw:OkD Tryz.prog 119 D_zod:=by unfold D_zod;exact dk N119.den
def zvd (a0:Danger):Bool:=
 (((zib a0.Name) && (zlb a0.At)) && (zb a0.Radius 1 20000))
namespace N79
theorem DD:DOk Tryz.prog (Go.Ab.DD [(116,dP D_zib),(117,dP D_zlb),(81,dP D_zb)]):=ya ylo.e <| ya yap.e <| ya yxc.e <| yc _
theorem dn:type_of% (And.intro @D_zib.eq_1 <| And.intro @D_zlb.eq_1 <| @D_zb.eq_1):=by and_intros<;>intros<;>rfl
theorem ol:type_of% (@zb.eq_1):=@zb.eq_1
theorem den (a0:Danger)  : Den Tryz.prog 79 [.ep (eDanger a0)] (.bool (zvd a0)):=by
 generalize hR:zvd a0=r;unfold zvd at hR;refine di Tryz.func79 Tryz.ntmps79 Tryz.results79 ?_;intro c hL hc hk;obtain⟨hL0,_⟩:=hL;have hw0:bwDanger a0:=y8 a0 hL0;clear hL0;simp only[pars,Nat.zero_add];iterate 2 refine rS ?_
 refine AWP.ret ?_;subst hR;exact es
end N79
def D_zvd : DF
 | [x0]=>some (.bool (zvd (rdP yy x0)),false,[wP eDanger yy x0])
 | _=>none
theorem y6u:OkD Tryz.prog 79 D_zvd:=by unfold D_zvd;exact dk N79.den
def yvi (a0:Danger) (a1:(List Aid)) (a2:Int) (i1:Nat) (s1:List Int):Except ((List Int)) (List Int):=
 (bif (zfd a0 (a1.getD i1 default) a2)then .ok (zhc s1 (((a1.getD i1 default).Mark).Kind))else .ok s1)
def zoc (a0:Danger) (a1:(List Aid)) (a2:Int):(List Int):=
 (match yf (yvi a0 a1 a2) (a1.length-0) 0 ([]:List Int)with|.error e=>e|.ok s1=>s1)
namespace N82
theorem DD:DOk Tryz.prog (Go.Ab.DD [(135,dP D_zfd),(136,dP D_zhc)]):=ya yuw.e <| ya y1u.e <| yc _
theorem dn:type_of% (And.intro @D_zfd.eq_1 <| @D_zhc.eq_1):=by and_intros<;>intros<;>rfl
theorem gr {p:Prop} (h:p:=by(grind [yeg]);first|done|fail):p:=h
theorem den (a0:Danger) (a1:(List Aid)) (a2:Int) (hb0:bdDanger a0) (hb1:a1.length<1099511627776) (hb2:∀ v∈a1,bdAid v):Den Tryz.prog 82 [.ep (eDanger a0),encL 16 eAid a1,.int .i64 a2] (ownL 2 1 yl (zoc a0 a1 a2)):=by
 generalize hR:zoc a0 a1 a2=r;unfold zoc at hR;refine di Tryz.func82 Tryz.ntmps82 Tryz.results82 ?_;intro c hL hc hk;obtain⟨hL0,hL1,hL2,_⟩:=hL;have hw0:bwDanger a0:=y8 a0 hL0;have hw1:a1.length<9223372036854775808:=Nat.lt_succ_of_le (ye hL1).1;have hw2:∀ v∈a1,bwAid v:=fun v hv=>y9 v ((ye hL1).2 v hv)
 clear hL0 hL1 hL2;simp only[pars,Nat.zero_add];iterate 3 refine rS ?_
 refine AWP.block ?_;generalize hz1:yf (yvi a0 a1 a2) (a1.length-0) 0 ([]:List Int)=z1 at hR;refine AWP.range (yvi a0 a1 a2) (fun i1 s1=>⟨[(0,.ep (eDanger a0)),(1,encL 16 eAid a1),(2,.int .i64 a2),(7,.ref 0 1 0 s1.length),(8,.int .i64 (i1:Int))],[.arr 2 1 s1.length (fun j=>yl (s1.getD j default))]⟩) (fun i1 s1=>s1.length<=i1) (a1.length) 0 ([]:List Int) [0] hz1 ot (by(simp)) sm ?_;clear hz1;intro i1 s1 hi1 hW1 hz1;refine rS ?_;refine AWP.cond rfl (fun hb => ?_) (fun hb => ?_)
 ·have hlt1:i1<a1.length:=ot
  rw[yk hlt1]at hz1;simp only[yvi]at hz1;refine rS ?_;refine AWP.cond rfl (fun hb => ?_) (fun hb => ?_)
  ·simp only[hb,cond_true]at hz1
   iterate 2 refine rS ?_
   exact⟨_,[1],hlt1,by(have h1:=hW1;have h2:=yeg s1 ((a1.getD i1 default).Mark.Kind);omega),hz1,sm⟩
  ·simp only[hb,cond_false]at hz1
   refine rS ?_;exact⟨_,[0],hlt1,by(have h1:=hW1;have h2:=yeg s1 ((a1.getD i1 default).Mark.Kind);omega),hz1,sm⟩
 ·obtain rfl:i1=a1.length:=ot
  rw[yj (Nat.le_refl _)]at hz1;subst hz1;dsimp only at hR;refine AWP.exit ?_;refine yb ?_;refine rS ?_;refine AWP.ret ?_;subst hR;exact es
end N82
def D_zoc : DF
 | [x0,x1,x2]=>some (ownL 2 1 yl (zoc (rdP yy x0) (rdL dAid x1) (rdI x2)),false,[wP eDanger yy x0,wL 16 eAid dAid x1,wI .i64 x2,bdDanger (rdP yy x0),(rdL dAid x1).length<1099511627776,∀ v∈(rdL dAid x1),bdAid v])
 | _=>none
theorem ygv:OkD Tryz.prog 82 D_zoc:=by unfold D_zoc;exact dk N82.den
end Go.Ab
