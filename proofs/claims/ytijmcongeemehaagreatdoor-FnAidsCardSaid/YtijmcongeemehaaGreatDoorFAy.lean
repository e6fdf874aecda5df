/- A part of a proof: walks of functions and lemmas of our own. No conditions. -/
import Derived.Test.YtijmcongeemehaaGreatDoorFAl
import Derived.Test.YtijmcongeemehaaGreatDoorFAu
import Derived.Test.YtijmcongeemehaaGreatDoorFAx
import Derived.Test.YtijmcongeemehaaGreatDoorFAo
import Derived.Test.YtijmcongeemehaaGreatDoorFAt
import Derived.Test.YtijmcongeemehaaGreatDoorFAq
import Derived.Test.YtijmcongeemehaaGreatDoorFAi
import Derived.Test.YtijmcongeemehaaGreatDoorFAn
set_option linter.unusedSectionVars false
set_option linter.unusedVariables false
set_option linter.unusedSimpArgs false
set_option maxHeartbeats 1000000
namespace Go.Ab
open Go Go.Proofs
def y5o (a0:Character) (i1:Nat) (s1:List Int):Except ((List Int)) (List Int):=
 (bif decide (0<(i1:Int))then .ok ((s1++([5]:List Int))++([((zbc ((a0.Letter.getD 0 0).toNat:Int)).getD i1 default)]:List Int))else .ok (s1++([((zbc ((a0.Letter.getD 0 0).toNat:Int)).getD i1 default)]:List Int)))
def y4p (a0:Character) (i2:Nat) (s2:List Int) (i3:Nat) (s3:List Int):Except ((List Int)) (List Int):=
 (bif decide (0<(i3:Int))then .ok ((s3++([(znc a0.Kind)]:List Int))++([(zfe a0.Kind)]:List Int))else(bif decide (0<(i2:Int))then .ok ((s3++([IntKind.wrap .i64 ((znc a0.Kind)+20)]:List Int))++([(zfe a0.Kind)]:List Int))else .ok (s3++([(zfe a0.Kind)]:List Int))))
def y7q (a0:Character) (i2:Nat) (s2:List Int):Except ((List Int)) (List Int):=
 (match yf (y4p a0 i2 s2) (((([1]:List Int).getD i2 default)).toNat-0) 0 s2 with|.error e=>.error e|.ok s3=>.ok s3)
def y9p (a0:Character) (i4:Nat) (s4:List Int) (i5:Nat) (s5:List Int):Except ((List Int)) (List Int):=
 (bif decide (0<(i5:Int))then .ok ((s5++([(znc a0.Kind)]:List Int))++([(zfe a0.Kind)]:List Int))else(bif decide (0<(i4:Int))then .ok ((s5++([IntKind.wrap .i64 ((znc a0.Kind)+20)]:List Int))++([(zfe a0.Kind)]:List Int))else .ok (s5++([(zfe a0.Kind)]:List Int))))
def yyp (a0:Character) (i4:Nat) (s4:List Int):Except ((List Int)) (List Int):=
 (match yf (y9p a0 i4 s4) (((a0.Group.getD i4 default)).toNat-0) 0 s4 with|.error e=>.error e|.ok s5=>.ok s5)
def zx (a0:Character):(List Int):=
 (bif (a0.Kind == 8)then(match yf (y5o a0) (((zbc ((a0.Letter.getD 0 0).toNat:Int)).length)-0) 0 ([]:List Int)with|.error e=>e|.ok s1=>s1)else(bif ((a0.Group.length:Int) == 0)then(match yf (y7q a0) (1-0) 0 ([]:List Int)with|.error e=>e|.ok s2=>(bif (a0.Letter == [76])then s2++([(znc a0.Kind),20]:List Int)else s2))else(match yf (yyp a0) (a0.Group.length-0) 0 ([]:List Int)with|.error e=>e|.ok s4=>(bif (a0.Letter == [76])then s4++([(znc a0.Kind),20]:List Int)else s4))))
namespace N260
theorem DD:DOk Tryz.prog (Go.Ab.DD [(309,dP D_zbc),(310,dP D_znc),(311,dP D_zfe)]):=ya y72.e <| ya ygv.e <| ya ya2.e <| ye _
theorem dn:type_of% (And.intro @D_zbc.eq_1 <| And.intro @D_znc.eq_1 <| @D_zfe.eq_1):=by and_intros<;>intros<;>rfl
theorem o2 {p:Prop} (h:p:=by(first|(and_intros<;>first|decide|omega|(simp;(first|done|fail))|(rw[IntKind.wrap_i64];have:=hg9 i4;omega)|(rw[IntKind.wrap_i64];have:=hg1 i2;omega)|(rw[IntKind.wrap_i64];omega)|(intro i hi;exact yfh _ _ i hi)|(intro i hi;exact y2q _ _ _ i hi)));first|done|fail):p:=h
theorem o3 {p:Prop} (h:p:=by(first|(refine⟨⟨Nat.le_refl _,fun i hi=>yuq _ _ _ i hi⟩,.inl fun i hi=>by rw[yij _ _ _ i hi];simp[NoBorL,NoBor],by simp,fun i hi=>by rw[yij _ _ _ i hi];exact y3 _⟩));first|done|fail):p:=h
theorem lx {p:Prop} (h:p:=by(exact lxx);first|done|fail):p:=h
set_option maxHeartbeats 1000000 in
set_option maxRecDepth 20000 in
theorem den (a0:Character) (hb0:bdCharacter a0) (hp0:a0.Group.length<=4) (hp1:∀ v∈a0.Group,v<=9) (hp2:a0.Kind=8->a0.Letter.length=1/\65<=(a0.Letter.getD 0 0).toNat/\(a0.Letter.getD 0 0).toNat<=90):Den Tryz.prog 260 [.ep (yi a0)] (ownL 2 1 yw (zx a0)):=by
 generalize hR:zx a0=r;unfold zx at hR;refine di Tryz.func260 Tryz.ntmps260 Tryz.results260 ?_;intro c hL hc hk;obtain⟨hL0,_⟩:=hL;have hw0:bwCharacter a0:=yu a0 hL0;clear hL0;simp only[pars,Nat.zero_add];have hg9:∀ i:Nat,a0.Group.getD i default<=9:=fun i=>y4n hp1 i
 have hs9:=ytr ((a0.Letter.getD 0 0).toNat:Int);have hg1:∀ i:Nat,([1]:List Int).getD i default<=9:=fun i=>y4n (by simp) i
 iterate 3 refine rS ?_
 refine AWP.cond rfl (fun hb => ?_) (fun hb => ?_)
 ·replace hR:=ct hR
  iterate 2 refine rS ?_
  refine AWP.block ?_;generalize hz1:yf (y5o a0) (((zbc ((a0.Letter.getD 0 0).toNat:Int)).length)-0) 0 ([]:List Int)=z1 at hR;refine AWP.range (y5o a0) (fun i1 s1=>⟨[(3,.ref 0 1 0 s1.length),(4,.ref 1 1 0 ((zbc ((a0.Letter.getD 0 0).toNat:Int)).length)),(5,.int .i64 (i1:Int))],[.arr 2 1 s1.length (fun j=>yw (s1.getD j default)),.arr 2 1 (zbc ((a0.Letter.getD 0 0).toNat:Int)).length (fun j=>yw ((zbc ((a0.Letter.getD 0 0).toNat:Int)).getD j default))]⟩) (fun i1 s1=>s1.length<=([]:List Int).length+2 * i1/\s1.length<=2 * i1) (((zbc ((a0.Letter.getD 0 0).toNat:Int)).length)) 0 ([]:List Int) [0,1] hz1 ot wt sm ?_;clear hz1;intro i1 s1 hi1 hW1 hz1;refine rS ?_;refine AWP.cond rfl (fun hb => ?_) (fun hb => ?_)
  ·have hlt1:i1<((zbc ((a0.Letter.getD 0 0).toNat:Int)).length):=ot
   rw[yp hlt1]at hz1;simp only[y5o]at hz1;refine rS ?_;refine AWP.cond rfl (fun hb => ?_) (fun hb => ?_)
   ·simp only[hb,cond_true]at hz1
    iterate 3 refine rS ?_
    exact⟨_,[5,1],hlt1,wt,hz1,sm⟩
   ·simp only[hb,cond_false]at hz1
    iterate 2 refine rS ?_
    exact⟨_,[3,1],hlt1,wt,hz1,sm⟩
  ·obtain rfl:i1=((zbc ((a0.Letter.getD 0 0).toNat:Int)).length):=ot
   rw[yq (Nat.le_refl _)]at hz1;subst hz1;dsimp only at hR;refine AWP.exit ?_;refine yb ?_;refine rS ?_;refine AWP.ret ?_;subst hR;exact es
 ·replace hR:=cf hR
  iterate 2 refine rS ?_
  refine AWP.cond rfl (fun hb => ?_) (fun hb => ?_)
  ·replace hR:=ct hR
   iterate 2 refine rS ?_
   refine AWP.block ?_;generalize hz2:yf (y7q a0) (1-0) 0 ([]:List Int)=z2 at hR;refine AWP.range (y7q a0) (fun i2 s2=>⟨[(0,.ep (yi a0)),(3,.ref 0 1 0 s2.length),(6,.ref 1 1 0 1),(7,.int .i64 (i2:Int))],[.arr 2 1 s2.length (fun j=>yw (s2.getD j default)),.arr 2 1 ([1]:List Int).length (fun j=>yw (([1]:List Int).getD j default))]⟩) (fun i2 s2=>s2.length<=18 * i2) (1) 0 ([]:List Int) [0,1] hz2 ot wt sm ?_;clear hz2;intro i2 s2 hi2 hW2 hz2;refine rS ?_;refine AWP.cond rfl (fun hb => ?_) (fun hb => ?_)
   ·have hlt2:i2<1:=ot
    rw[yp hlt2]at hz2;simp only[y7q]at hz2;refine rS ?_;refine AWP.block ?_;generalize hz3:yf (y4p a0 i2 s2) (((([1]:List Int).getD i2 default)).toNat-0) 0 s2=z3 at hz2;refine AWP.range (y4p a0 i2 s2) (fun i3 s3=>⟨[(0,.ep (yi a0)),(3,.ref 0 1 0 s3.length),(6,.ref 1 1 0 1),(7,.int .i64 (i2:Int)),(8,.int .i64 (i3:Int))],[.arr 2 1 s3.length (fun j=>yw (s3.getD j default)),.arr 2 1 ([1]:List Int).length (fun j=>yw (([1]:List Int).getD j default))]⟩) (fun i3 s3=>s3.length<=s2.length+2 * i3/\s3.length<=18 * i2+2 * i3) (((([1]:List Int).getD i2 default)).toNat) 0 s2 [0,1] hz3 ot wt sm ?_;clear hz3;intro i3 s3 hi3 hW3 hz3;refine rS ?_;refine AWP.cond rfl (fun hb => ?_) (fun hb => ?_)
    ·have hlt3:i3<((([1]:List Int).getD i2 default)).toNat:=ot
     rw[yp hlt3]at hz3;simp only[y4p]at hz3;refine rS ?_;refine AWP.cond rfl (fun hb => ?_) (fun hb => ?_)
     ·simp only[hb,cond_true]at hz3
      iterate 3 refine rS ?_
      exact⟨_,[5,1],hlt3,wt,hz3,sm⟩
     ·simp only[hb,cond_false]at hz3
      refine rS ?_;refine AWP.cond rfl (fun hb => ?_) (fun hb => ?_)
      ·simp only[hb,cond_true]at hz3
       iterate 3 refine rS ?_
       exact⟨_,[5,1],hlt3,wt,hz3,sm⟩
      ·simp only[hb,cond_false]at hz3
       iterate 2 refine rS ?_
       exact⟨_,[3,1],hlt3,wt,hz3,sm⟩
    ·obtain rfl:i3=((([1]:List Int).getD i2 default)).toNat:=ot
     rw[yq (Nat.le_refl _)]at hz3;subst hz3;dsimp only at hz2;refine AWP.exit ?_;refine yb ?_;refine rS ?_;exact⟨_,[0,1],hlt2,by(have h9:=hg1 i2;omega),hz2,sm⟩
   ·obtain rfl:i2=1:=ot
    rw[yq (Nat.le_refl _)]at hz2;subst hz2;dsimp only at hR;refine AWP.exit ?_;refine yb ?_;refine rS ?_;refine AWP.cond rfl (fun hb => ?_) (fun hb => ?_)
    ·replace hR:=ct hR
     iterate 2 refine rS ?_
     refine AWP.ret ?_;subst hR;exact es
    ·replace hR:=cf hR
     refine rS ?_;refine AWP.ret ?_;subst hR;exact es
  ·replace hR:=cf hR
   refine rS ?_;refine AWP.block ?_;refine AWP.lensS 6 rfl (fun hLn4 => ?_);generalize hz4:yf (yyp a0) (a0.Group.length-0) 0 ([]:List Int)=z4 at hR;refine AWP.range (yyp a0) (fun i4 s4=>⟨[(0,.ep (yi a0)),(3,.ref 0 1 0 s4.length),(6,encL 1 yw a0.Group),(7,.int .i64 (i4:Int))],[.arr 2 1 s4.length (fun j=>yw (s4.getD j default))]⟩) (fun i4 s4=>s4.length<=18 * i4) (a0.Group.length) 0 ([]:List Int) [0] hz4 ot wt sm ?_;clear hz4;intro i4 s4 hi4 hW4 hz4;refine rS ?_;refine AWP.cond rfl (fun hb => ?_) (fun hb => ?_)
   ·have hlt4:i4<a0.Group.length:=ot
    rw[yp hlt4]at hz4;simp only[yyp]at hz4;refine rS ?_;refine AWP.block ?_;generalize hz5:yf (y9p a0 i4 s4) (((a0.Group.getD i4 default)).toNat-0) 0 s4=z5 at hz4;refine AWP.range (y9p a0 i4 s4) (fun i5 s5=>⟨[(0,.ep (yi a0)),(3,.ref 0 1 0 s5.length),(6,encL 1 yw a0.Group),(7,.int .i64 (i4:Int)),(8,.int .i64 (i5:Int))],[.arr 2 1 s5.length (fun j=>yw (s5.getD j default))]⟩) (fun i5 s5=>s5.length<=s4.length+2 * i5/\s5.length<=18 * i4+2 * i5) (((a0.Group.getD i4 default)).toNat) 0 s4 [0] hz5 ot wt sm ?_;clear hz5;intro i5 s5 hi5 hW5 hz5;refine rS ?_;refine AWP.cond rfl (fun hb => ?_) (fun hb => ?_)
    ·have hlt5:i5<((a0.Group.getD i4 default)).toNat:=ot
     rw[yp hlt5]at hz5;simp only[y9p]at hz5;refine rS ?_;refine AWP.cond rfl (fun hb => ?_) (fun hb => ?_)
     ·simp only[hb,cond_true]at hz5
      iterate 3 refine rS ?_
      exact⟨_,[4],hlt5,wt,hz5,sm⟩
     ·simp only[hb,cond_false]at hz5
      refine rS ?_;refine AWP.cond rfl (fun hb => ?_) (fun hb => ?_)
      ·simp only[hb,cond_true]at hz5
       iterate 3 refine rS ?_
       exact⟨_,[4],hlt5,wt,hz5,sm⟩
      ·simp only[hb,cond_false]at hz5
       iterate 2 refine rS ?_
       exact⟨_,[2],hlt5,wt,hz5,sm⟩
    ·obtain rfl:i5=((a0.Group.getD i4 default)).toNat:=ot
     rw[yq (Nat.le_refl _)]at hz5;subst hz5;dsimp only at hz4;refine AWP.exit ?_;refine yb ?_;refine rS ?_;exact⟨_,[0],hlt4,by(have h9:=hg9 i4;omega),hz4,sm⟩
   ·obtain rfl:i4=a0.Group.length:=ot
    rw[yq (Nat.le_refl _)]at hz4;subst hz4;dsimp only at hR;refine AWP.exit ?_;refine yb ?_;refine rS ?_;refine AWP.cond rfl (fun hb => ?_) (fun hb => ?_)
    ·replace hR:=ct hR
     iterate 2 refine rS ?_
     refine AWP.ret ?_;subst hR;exact es
    ·replace hR:=cf hR
     refine rS ?_;refine AWP.ret ?_;subst hR;exact es
end N260
def D_zx : DF
 | [x0]=>some (ownL 2 1 yw (zx (rdP yd x0)),false,[wP yi yd x0,bdCharacter (rdP yd x0),(rdP yd x0).Group.length<=4,∀ v∈(rdP yd x0).Group,v<=9,(rdP yd x0).Kind=8->(rdP yd x0).Letter.length=1/\65<=((rdP yd x0).Letter.getD 0 0).toNat/\((rdP yd x0).Letter.getD 0 0).toNat<=90])
 | _=>none
theorem y06:OkD Tryz.prog 260 D_zx:=by unfold D_zx;exact dk N260.den
def zl (a0:Character):Int:=
 (bif (zkb a0)then 0 else(bif (a0.Kind == 3)then 20 else IntKind.wrap .i64 ((zud (zx a0))+(zgf a0))))
namespace N203
theorem DD:DOk Tryz.prog (Go.Ab.DD [(202,dP D_zkb),(259,dP D_zud),(260,dP D_zx),(261,dP D_zgf)]):=ya yyn.e <| ya yy2.e <| ya y06.e <| ya y41.e <| ye _
theorem dn:type_of% (And.intro @D_zkb.eq_1 <| And.intro @D_zud.eq_1 <| And.intro @D_zx.eq_1 <| @D_zgf.eq_1):=by and_intros<;>intros<;>rfl
theorem den (a0:Character) (hb0:bdCharacter a0) (hp0:a0.Group.length<=4) (hp1:∀ v∈a0.Group,v<=9) (hp2:a0.Kind=8->a0.Letter.length=1/\65<=(a0.Letter.getD 0 0).toNat/\(a0.Letter.getD 0 0).toNat<=90):Den Tryz.prog 203 [.ep (yi a0)] (.int .i64 (zl a0)):=by
 generalize hR:zl a0=r;unfold zl at hR;refine di Tryz.func203 Tryz.ntmps203 Tryz.results203 ?_;intro c hL hc hk;obtain⟨hL0,_⟩:=hL;have hw0:bwCharacter a0:=yu a0 hL0;clear hL0;simp only[pars,Nat.zero_add];iterate 2 refine rS ?_
 refine AWP.cond rfl (fun hb => ?_) (fun hb => ?_)
 ·replace hR:=ct hR
  refine rS ?_;refine AWP.ret ?_;subst hR;exact es
 ·replace hR:=cf hR
  refine rS ?_;refine AWP.cond rfl (fun hb => ?_) (fun hb => ?_)
  ·replace hR:=ct hR
   refine rS ?_;refine AWP.ret ?_;subst hR;exact es
  ·replace hR:=cf hR
   refine rS ?_;refine AWP.ret ?_;subst hR;exact es
end N203
def D_zl : DF
 | [x0]=>some (.int .i64 (zl (rdP yd x0)),false,[wP yi yd x0,bdCharacter (rdP yd x0),(rdP yd x0).Group.length<=4,∀ v∈(rdP yd x0).Group,v<=9,(rdP yd x0).Kind=8->(rdP yd x0).Letter.length=1/\65<=((rdP yd x0).Letter.getD 0 0).toNat/\((rdP yd x0).Letter.getD 0 0).toNat<=90])
 | _=>none
theorem y1z:OkD Tryz.prog 203 D_zl:=by unfold D_zl;exact dk N203.den
def ztb (a0:Character):Bool:=
 (bif (!(zod a0))then false else(bif (zkb a0)then(a0.Period == 0)else(bif ((a0.Kind == 3) && ((a0.Period.tmod 2) != 0))then false else(zn a0.Period (zl a0) 600))))
namespace N122
theorem DD:DOk Tryz.prog (Go.Ab.DD [(201,dP D_zod),(202,dP D_zkb),(203,dP D_zl),(95,dP D_zn)]):=ya yz3.e <| ya yyn.e <| ya y1z.e <| ya yig.e <| ye _
theorem dn:type_of% (And.intro @D_zod.eq_1 <| And.intro @D_zkb.eq_1 <| And.intro @D_zl.eq_1 <| @D_zn.eq_1):=by and_intros<;>intros<;>rfl
theorem ol:type_of% (@zn.eq_1):=@zn.eq_1
theorem o0 {p:Prop} (h:p:=by(first|(have q9 := ‹(!zod a0)=false›;have h9:=y1y a0 (by simpa using q9);first|exact⟨hb0,h9.1,fun v hv=>(h9.2.1 v hv).2,h9.2.2⟩|exact⟨h9.1,fun v hv=>(h9.2.1 v hv).2,h9.2.2⟩|(and_intros<;>first|exact hb0|exact h9.1|exact fun v hv=>(h9.2.1 v hv).2|exact h9.2.2|decide|(intros;decide))));first|done|fail):p:=h
theorem den (a0:Character) (hb0:bdCharacter a0):Den Tryz.prog 122 [.ep (yi a0)] (.bool (ztb a0)):=by
 generalize hR:ztb a0=r;unfold ztb at hR;refine di Tryz.func122 Tryz.ntmps122 Tryz.results122 ?_;intro c hL hc hk;obtain⟨hL0,_⟩:=hL;have hw0:bwCharacter a0:=yu a0 hL0;clear hL0;simp only[pars,Nat.zero_add];iterate 2 refine rS ?_
 refine AWP.cond rfl (fun hb => ?_) (fun hb => ?_)
 ·replace hR:=ct hR
  refine rS ?_;refine AWP.ret ?_;subst hR;exact es
 ·replace hR:=cf hR
  refine rS ?_;refine AWP.cond rfl (fun hb => ?_) (fun hb => ?_)
  ·replace hR:=ct hR
   refine rS ?_;refine AWP.ret ?_;subst hR;exact es
  ·replace hR:=cf hR
   refine rS ?_;refine AWP.cond rfl (fun hb => ?_) (fun hb => ?_)
   ·replace hR:=ct hR
    refine rS ?_;refine AWP.ret ?_;subst hR;exact es
   ·replace hR:=cf hR
    refine rD 6 ?_;refine AWP.ret ?_;subst hR;exact es
end N122
def D_ztb : DF
 | [x0]=>some (.bool (ztb (rdP yd x0)),false,[wP yi yd x0,bdCharacter (rdP yd x0)])
 | _=>none
theorem y33:OkD Tryz.prog 122 D_ztb:=by unfold D_ztb;exact dk N122.den
theorem y7z (g:List Int):zrd g=zgc g:=Bool.eq_iff_iff.2 ((ynk g).trans (ygf g).symm)
theorem ykn (a:List UInt8):(zec a != [])=decide (a.length=1/\65<=(a.getD 0 0).toNat/\(a.getD 0 0).toNat<=90):=by
 rw[yhj];by_cases h:a.length=1/\65<=(a.getD 0 0).toNat/\(a.getD 0 0).toNat<=90
 ·rw[if_pos h,decide_eq_true h]
  have hlt:(a.getD 0 0).toNat-65<y6c.length:=by show _<26;omega
  rw[List.getD_eq_getElem?_getD,List.getElem?_eq_getElem hlt,Option.getD_some];have:=(y0g _ (List.getElem_mem hlt)).1;rw[bne_iff_ne];intro h2;rw[h2]at this;simp at this
 ·rw[if_neg h,decide_eq_false h];rfl
theorem yq2 (L:List UInt8) (g:List Int) :
  (bif (L == [])then(((g.length:Int) == 0) || (((g.length:Int) == 1) && (zk (g.getD 0 default) 2 9)))else((L == [76]) && (zyc g [6]))) =
  (bif (L == [76])then(((g.length:Int) == 1) && ((g.getD 0 default) == 6))else(((L == []) && decide ((g.length:Int)<=1)) && (zgc g))):=by
 by_cases h1:L=[]
 ·subst h1
  simp only[show(([]:List UInt8) == [])=true from rfl,show(([]:List UInt8) == [76])=false from rfl,cond_true,cond_false,Bool.true_and];apply Bool.eq_iff_iff.2;rw[Bool.and_eq_true,ygf,decide_eq_true_eq]
  match g with
  | []=>simp[yww]
  | [x]=>
   have e:((([x]:List Int).length:Int) == 0)=false:=rfl;have e2:((([x]:List Int).length:Int) == 1)=true:=rfl;rw[e,e2];simp only[Bool.false_or,Bool.true_and,zk,Bool.and_eq_true,decide_eq_true_eq,List.getD_cons_zero,yww,List.length_singleton,List.mem_singleton,forall_eq,List.sum_cons,List.sum_nil,ne_eq,List.cons.injEq,and_true];omega
  | x::y::t=>
   have e:(((x::y::t).length:Int) == 0)=false:=by rw[beq_eq_false_iff_ne];simp only[List.length_cons];omega
   have e2:(((x::y::t).length:Int) == 1)=false:=by rw[beq_eq_false_iff_ne];simp only[List.length_cons];omega
   rw[e,e2];simp only[Bool.false_and,Bool.or_self,Bool.false_eq_true,false_iff,List.length_cons];omega
 ·have e1:(L == [])=false:=by simpa using h1
  rw[e1];by_cases h2:L=[76]
  ·subst h2
   simp only[BEq.rfl,cond_true,cond_false,Bool.true_and,yye];apply Bool.eq_iff_iff.2;rw[Bool.and_eq_true,decide_eq_true_eq,beq_iff_eq,beq_iff_eq];constructor
   ·intro h;subst h;simp
   ·rintro⟨h3,h4⟩
    obtain⟨x,rfl⟩:=List.length_eq_one_iff.1 (show g.length=1 by omega);simp only[List.getD_cons_zero]at h4;rw[h4]
  ·have e2:(L == [76])=false:=by simpa using h2
   rw[e2];simp
theorem yx1 (c:Character) (hl:c.Colors.length<9223372036854775808):zod c=(zic c.Colors && zqb c):=by
 unfold zod zqb zof zn;rw[ytp _ hl, <- yq2,y7z,ykn]
 cases zob c.Colors with
 | false=>simp
 | true=>
  simp only[Bool.not_true,Bool.or_false,Bool.true_and];rcases(show c.Kind=1\/c.Kind=2\/c.Kind=3\/c.Kind=4\/c.Kind=5\/c.Kind=6\/c.Kind=7\/c.Kind=8\/(c.Kind<1\/8<c.Kind)by omega)with h|h|h|h|h|h|h|h|h
  ·rw[h];rfl
  ·rw[h];rfl
  ·rw[h];rfl
  ·rw[h];rfl
  ·rw[h];rfl
  ·rw[h];rfl
  ·rw[h];rfl
  ·rw[h]
   show((((((c.Group.length:Int) == 0) && ((c.Letter.length:Int) == 1)) && decide (65<=((c.Letter.getD 0 0).toNat:Int))) && decide (((c.Letter.getD 0 0).toNat:Int)<=90)))=(decide (c.Letter.length=1/\65<=(c.Letter.getD 0 0).toNat/\(c.Letter.getD 0 0).toNat<=90) && ((c.Group.length:Int) == 0))
   apply Bool.eq_iff_iff.2;simp only[Bool.and_eq_true,beq_iff_eq,decide_eq_true_eq];omega
  ·have e0:(decide (1<=c.Kind) && decide (c.Kind<=8))=false:=by
    rw[Bool.and_eq_false_iff,decide_eq_false_iff_not,decide_eq_false_iff_not];omega
   have e:∀ n:Int,1<=n->n<=8->(c.Kind == n)=false:=fun n h1 h2=>by rw[beq_eq_false_iff_ne];omega
   rw[e0,e 1 (by omega) (by omega),e 2 (by omega) (by omega),e 3 (by omega) (by omega),e 4 (by omega) (by omega),e 5 (by omega) (by omega),e 6 (by omega) (by omega),e 7 (by omega) (by omega),e 8 (by omega) (by omega)];rfl
theorem yy7 (l:List Int):zqe l=zud l:=rfl
theorem yqk (c:Character):zid c=zkb c:=rfl
theorem ysr (c:Character) (h:zqb c=true) (h8:c.Kind≠8):(c.Letter != [])=(c.Letter == [76]):=by
 unfold zqb at h;simp only[Bool.cond_eq_ite]at h;have e8:(c.Kind == 8)=false:=by rw[beq_eq_false_iff_ne];exact h8
 repeat' split at h
 all_goals first
  | (rename_i q;rw[e8]at q;cases q;done)
  | (cases h;done)
  | (simp only[Bool.and_eq_true,beq_iff_eq]at h;rw[h.2];rfl)
  | (simp only[Bool.and_eq_true,beq_iff_eq]at h;rw[h.1];rfl)
  | (rename_i q;simp only[beq_iff_eq]at q;rw[q];rfl)
theorem ybz (k:Int) (h:k=2\/k=4\/k=5\/k=6\/k=7\/k=8):(zfb k).1=zfe k/\(zfb k).2.1=znc k:=by
 rcases h with h|h|h|h|h|h<;>subst h<;>exact⟨rfl,rfl⟩
theorem y92 (c:Character) (h:zqb c=true) (hk:c.Kind=2\/c.Kind=4\/c.Kind=5\/c.Kind=6\/c.Kind=7\/c.Kind=8):zdb c=zx c:=by
 obtain⟨r1,r2⟩:=ybz c.Kind hk;by_cases h8:c.Kind=8
 ·have hs:(zec c.Letter != [])=true:=by
   unfold zqb at h;rw[h8]at h;have h:(((zec c.Letter) != []) && ((c.Group.length:Int) == 0))=true:=h;rw[Bool.and_eq_true]at h;exact h.1
  rw[ykn,decide_eq_true_eq]at hs;have e1:=yhj c.Letter;rw[if_pos hs]at e1;have e2:=yeg ((c.Letter.getD 0 0).toNat:Int);rw[y8k _ (by omega) (by omega),show((((c.Letter.getD 0 0).toNat:Int)-65).toNat)=(c.Letter.getD 0 0).toNat-65 by omega]at e2;have hd:(default:List UInt8)=[]:=rfl;rw[hd]at e2
  have hall:∀ x∈y6c.getD ((c.Letter.getD 0 0).toNat-65) [],x=45\/x=46:=by
   have hlt:(c.Letter.getD 0 0).toNat-65<y6c.length:=by show _<26;omega
   rw[List.getD_eq_getElem?_getD,List.getElem?_eq_getElem hlt,Option.getD_some];exact(y0g _ (List.getElem_mem hlt)).2.2
  generalize y6c.getD ((c.Letter.getD 0 0).toNat-65) []=code at *
  have hb:yf (ywm c) code.length 0 []=yf (y5o c) code.length 0 []:=y0l _ _ _ (fun j u _ hj=>by
   unfold ywm y5o;rw[e1,e2,r1,r2,h8]
   have hg:(code.map (fun c=>if c=46 then(5:Int)else 15)).getD j default=if code.getD j 0=46 then 5 else 15:=by
    rw[List.getD_eq_getElem?_getD,List.getD_eq_getElem?_getD,List.getElem?_map,List.getElem?_eq_getElem (by omega)];rfl
   rw[hg];have hm:=hall (code.getD j 0) (by rw[List.getD_eq_getElem?_getD,List.getElem?_eq_getElem (by omega),Option.getD_some];exact List.getElem_mem _);generalize code.getD j 0=x at hm
   rcases hm with hm|hm<;>subst hm<;>rfl)
  unfold zdb zx;rw[h8,e1,e2];simp only[List.length_map,Nat.sub_zero];rw[hb];rfl
 ·have e8:(c.Kind == 8)=false:=by rw[beq_eq_false_iff_ne];exact h8
  unfold zdb zx;rw[e8,ysr c h h8,r2]
  have b3:ycm c=y4p c:=by
   funext i s j t
   unfold ycm y4p;rw[r1,r2]
  have b5:y7m c=y9p c:=by
   funext i s j t
   unfold y7m y9p;rw[r1,r2]
  have b2:y9l c=y7q c:=by
   funext i s
   unfold y9l y7q;rw[b3];all_goals rfl
  have b4:yam c=yyp c:=by
   funext i s
   unfold yam yyp;rw[b5];all_goals rfl
  rw[b2,b4];rfl
theorem yov (c:Character) (h:zqb c=true) (hs:zid c=false):zyf c=zl c:=by
 unfold zyf zl;rw[hs, <- yqk,hs];simp only[cond_false];by_cases h3:c.Kind=3
 ·rw[h3];rfl
 ·have e3:(c.Kind == 3)=false:=by rw[beq_eq_false_iff_ne];exact h3
  rw[e3];simp only[cond_false]
  have hk:c.Kind=2\/c.Kind=4\/c.Kind=5\/c.Kind=6\/c.Kind=7\/c.Kind=8:=by
   unfold zqb at h;unfold zid at hs;simp only[Bool.cond_eq_ite]at h;simp only[Bool.or_eq_false_iff,beq_eq_false_iff_ne]at hs;repeat' split at h
   all_goals (try simp only[beq_iff_eq]at *)
   all_goals first|omega|(cases h;done)
  rw[y92 c h hk,yy7];have hg:=(y7c c h).1
  have hone:c.Kind=6\/c.Kind=7\/c.Kind=8->c.Group.length<=1:=by
   intro hq;unfold zqb at h;simp only[Bool.cond_eq_ite]at h;repeat' split at h
   all_goals (try simp only[Bool.and_eq_true,Bool.or_eq_true,beq_iff_eq,yye,decide_eq_true_eq]at *)
   all_goals first|omega|(rcases h with h|h<;>omega)|(rw[h.2];simp)
  have e1:∀ n:Int,IntKind.wrap .i64 n=n\/True:=fun _=>.inr trivial
  unfold zgf;rcases hk with hk|hk|hk|hk|hk|hk
  ·rw[hk]
   cases decide (1<(c.Group.length:Int))<;>rfl
  ·rw[hk]
   cases decide (1<(c.Group.length:Int))<;>rfl
  ·rw[hk]
   cases decide (1<(c.Group.length:Int))<;>rfl
  ·have:=hone (by omega)
   rw[hk,decide_eq_false (show ¬ 1<(c.Group.length:Int)by omega)];rfl
  ·have:=hone (by omega)
   rw[hk,decide_eq_false (show ¬ 1<(c.Group.length:Int)by omega)];rfl
  ·have:=hone (by omega)
   rw[hk,decide_eq_false (show ¬ 1<(c.Group.length:Int)by omega)];rfl
theorem yre (c:Character) (hl:c.Colors.length<9223372036854775808):zib c=ztb c:=by
 unfold zib ztb;rw[yx1 c hl, <- yqk]
 cases h1:zic c.Colors with
 | false=>rfl
 | true=>
  cases h2:zqb c with
  | false=>rfl
  | true=>
   cases h3:zid c with
   | true=>rfl
   | false=>
    rw[yov c h2 h3];simp only[Bool.not_true,Bool.or_self,Bool.and_self,cond_false,zk,zn]
    cases h4:(c.Kind == 3)with
    | false=>
     have:(c.Kind != 3)=true:=by rw[bne,h4];rfl
     rw[this];simp
    | true=>
     have:(c.Kind != 3)=false:=by rw[bne,h4];rfl
     rw[this];simp only[Bool.false_or,Bool.true_and]
     cases h5:(c.Period.tmod 2 == 0)with
     | true=>
      have:(c.Period.tmod 2 != 0)=false:=by rw[bne,h5];rfl
      rw[this];simp
     | false=>
      have:(c.Period.tmod 2 != 0)=true:=by rw[bne,h5];rfl
      rw[this];simp
theorem y47 (s:List UInt8) (c:UInt8) : -1<=Go.Lib.indexByte s c/\(0<=Go.Lib.indexByte s c↔c∈s):=by
 induction s with
 | nil=>simp[Go.Lib.indexByte]
 | cons b l ih=>
  obtain⟨i1,i2⟩:=ih;by_cases hb:b=c
  ·subst hb;simp[Go.Lib.indexByte]
  ·have hb2:¬ c=b:=fun h=>hb h.symm
   have e1:(b == c)=false:=by simpa using hb
   by_cases hm:c∈l
   ·have h0:=i2.2 hm
    have e2:(Go.Lib.indexByte l c == -1)=false:=by rw[beq_eq_false_iff_ne];omega
    have e3:Go.Lib.indexByte (b::l) c=Go.Lib.indexByte l c+1:=by simp only[Go.Lib.indexByte,e1,e2,Bool.false_eq_true,if_false]
    rw[e3];exact⟨by omega,fun _=>List.mem_cons_of_mem _ hm,fun _=>by omega⟩
   ·have h0:¬ 0<=Go.Lib.indexByte l c:=fun h=>hm (i2.1 h)
    have e0:Go.Lib.indexByte l c = -1:=by omega
    have e3:Go.Lib.indexByte (b::l) c = -1:=by simp only[Go.Lib.indexByte,e1,e0,Bool.false_eq_true,if_false];rfl
    rw[e3];refine⟨by omega,fun h=>by omega,fun h => ?_⟩;rcases List.mem_cons.1 h with h|h
    ·exact absurd h hb2
    ·exact absurd h hm
theorem ybt (s:List UInt8) (c:UInt8):zhc s [c]=decide (c∈s):=by
 unfold zhc;rw[List.getD_cons_zero];exact decide_eq_decide.2 (y47 s c).2
theorem yp3 (s:List UInt8) (c:UInt8):zhc (s++[c]) [c]=true:=by
 rw[ybt];simp
theorem yo7 (s:List UInt8) (b c:UInt8) (h:b≠c):zhc (s++[b]) [c]=zhc s [c]:=by
 rw[ybt,ybt];have:¬ c=b:=fun e=>h e.symm
 simp[this]
theorem yau (c:UInt8) (g:Sector->List UInt8->Except (List UInt8) (List UInt8)) (hg:∀ x u,g x u=bif ((x.Color == [c]) && (!(zhc u [c])))then .ok (u++[c])else .ok u) :
  ∀ (l:List Sector) (u:List UInt8),zhc u [c]=true->yvj g l u=.ok u
 | [],u,_=>rfl
 | x::l,u,h=>by
  rw[yrf,hg,h,Bool.not_true,Bool.and_false];exact yau c g hg l u h
theorem ykx (c:UInt8) (g:Sector->List UInt8->Except (List UInt8) (List UInt8)) (hg:∀ x u,g x u=bif ((x.Color == [c]) && (!(zhc u [c])))then .ok (u++[c])else .ok u) :
  ∀ (l:List Sector) (u:List UInt8),zhc u [c]=false->yvj g l u=.ok (bif l.any (fun x=>x.Color == [c])then u++[c]else u)
 | [],u,_=>rfl
 | x::l,u,h=>by
  rw[yrf,hg,h,Bool.not_false,Bool.and_true,List.any_cons]
  cases hx:(x.Color == [c])with
  | true=>
   simp only[cond_true,Bool.true_or];exact yau c g hg l _ (yp3 u c)
  | false=>
   simp only[cond_false,Bool.false_or];exact ykx c g hg l u h
theorem ywy (c:List UInt8) (g:Sector->List UInt8->Except (Sum (List UInt8) (List UInt8)) (List UInt8)) (hg:∀ x u,g x u=bif (x.Color == c)then .error (.inr (u++c))else .ok u) :
  ∀ (l:List Sector) (u:List UInt8),yvj g l u=bif l.any (fun x=>x.Color == c)then .error (.inr (u++c))else .ok u
 | [],u=>rfl
 | x::l,u=>by
  rw[yrf,hg,List.any_cons]
  cases hx:(x.Color == c)with
  | true=>rfl
  | false=>
   simp only[cond_false,Bool.false_or];exact ywy c g hg l u
def ytd (a:List Sector) (s:List UInt8) (c:UInt8):List UInt8:=bif a.any (fun x=>x.Color == [c])then s++[c]else s
theorem ymf (a:List Sector) (i:Nat) (s:List UInt8) (c:UInt8) (h4:i<4) (hc:(([87,82,71,89].take ((IntKind.wrap .i64 ((i:Int)+1)).toNat)).drop i)=[c]) (h:zhc s [c]=false) :
  ytm a i s=.ok (ytd a s c):=by
 unfold ytm;rw[ygd (fun x u=>bif ((x.Color == [c]) && (!(zhc u [c])))then .ok (u++[c])else .ok u) a s (fun j u _=>by simp only[yup,hc])];rw[ykx c _ (fun _ _=>rfl) a s h];rfl
theorem ylc (a:List Sector) (i:Nat) (s:List UInt8) (c:UInt8) (hc:([[87],[82],[71],[89]]:List (List UInt8)).getD i default=[c]):y2l a i s=.ok (ytd a s c):=by
 unfold y2l;rw[ygd (fun x u=>bif (x.Color == [c])then .error (.inr (u++[c]))else .ok u) a s (fun j u _=>by simp only[yso,hc])];rw[ywy [c] _ (fun _ _=>rfl) a s];unfold ytd;cases a.any (fun x=>x.Color == [c])<;>rfl
theorem yrc (a:List Sector) (s:List UInt8) (b c:UInt8) (h:b≠c):zhc (ytd a s b) [c]=zhc s [c]:=by
 unfold ytd
 cases a.any (fun x=>x.Color == [b])with
 | true=>exact yo7 s b c h
 | false=>rfl
theorem y8i (a:List Sector):zzc a=zlb a:=by
 unfold zzc zlb;have n0:∀ c:UInt8,zhc [] [c]=false:=by intro c;simp[zhc,Go.Lib.indexByte]
 have l4:([87,82,71,89]:List Nat).length-0=4:=rfl;rw[l4];simp only[yf,Nat.sub_zero];rw[ymf a 0 [] 87 (by omega) rfl (n0 _),ylc a 0 [] 87 rfl];simp only;rw[ymf a (0+1) _ 82 (by omega) rfl (by rw[yrc _ _ _ _ (by decide)];exact n0 _),ylc a (0+1) _ 82 rfl];simp only;rw[ymf a (0+1+1) _ 71 (by omega) rfl (by rw[yrc _ _ _ _ (by decide),yrc _ _ _ _ (by decide)];exact n0 _),ylc a (0+1+1) _ 71 rfl];simp only;rw[ymf a (0+1+1+1) _ 89 (by omega) rfl (by rw[yrc _ _ _ _ (by decide),yrc _ _ _ _ (by decide),yrc _ _ _ _ (by decide)];exact n0 _),ylc a (0+1+1+1) _ 89 rfl]
def zne (a0:Aid):Bool:=
 (bif (((!(zib a0.Light)) || (!(zvf a0.Intensity))) || (!(znb a0.Sectors)))then false else(bif ((a0.Sectors.length:Int) == 0)then((a0.Light.Colors.length:Int) == 1)else((zzc a0.Sectors) == a0.Light.Colors)))
namespace N60
theorem DD:DOk Tryz.prog (Go.Ab.DD [(137,dP D_zib),(138,dP D_zvf),(139,dP D_znb),(140,dP D_zzc)]):=ya y1n.e <| ya ym2.e <| ya yln.e <| ya yz0.e <| ye _
theorem dn:type_of% (And.intro @D_zib.eq_1 <| And.intro @D_zvf.eq_1 <| And.intro @D_znb.eq_1 <| @D_zzc.eq_1):=by and_intros<;>intros<;>rfl
theorem den (a0:Aid) (hb0:bdAid a0):Den Tryz.prog 60 [.agg (eAid a0)] (.bool (zne a0)):=by
 generalize hR:zne a0=r;unfold zne at hR;refine di Tryz.func60 Tryz.ntmps60 Tryz.results60 ?_;intro c hL hc hk;obtain⟨hL0,_⟩:=hL;have hw0:bwAid a0:=y5 a0 hL0;clear hL0;simp only[pars,Nat.zero_add];iterate 2 refine rS ?_
 refine AWP.cond rfl (fun hb => ?_) (fun hb => ?_)
 ·replace hR:=ct hR
  refine rS ?_;refine AWP.ret ?_;subst hR;exact es
 ·replace hR:=cf hR
  refine rS ?_;refine AWP.cond rfl (fun hb => ?_) (fun hb => ?_)
  ·replace hR:=ct hR
   refine rS ?_;refine AWP.ret ?_;subst hR;exact es
  ·replace hR:=cf hR
   refine rD 6 ?_;refine AWP.ret ?_;subst hR;exact es
end N60
def D_zne : DF
 | [x0]=>some (.bool (zne (rdG dAid x0)),false,[wG eAid dAid x0,bdAid (rdG dAid x0)])
 | _=>none
theorem ysu:OkD Tryz.prog 60 D_zne:=by unfold D_zne;exact dk N60.den
def zxc (a0:Aid):Bool:=
 ((((((zcg a0.Number) && (zke a0.Name)) && (zld a0.At)) && (zdg a0.Height)) && (zcd a0.Mark)) && ((zne a0) || (zuf a0)))
namespace N59
theorem DD:DOk Tryz.prog (Go.Ab.DD [(107,dP D_zcg),(132,dP D_zke),(133,dP D_zld),(134,dP D_zdg),(135,dP D_zcd),(136,dP D_zuf),(60,dP D_zne)]):=ya yo3.e <| ya yb3.e <| ya yun.e <| ya yw0.e <| ya ylo.e <| ya yp2.e <| ya ysu.e <| ye _
theorem dn:type_of% (And.intro @D_zcg.eq_1 <| And.intro @D_zke.eq_1 <| And.intro @D_zld.eq_1 <| And.intro @D_zdg.eq_1 <| And.intro @D_zcd.eq_1 <| And.intro @D_zuf.eq_1 <| @D_zne.eq_1):=by and_intros<;>intros<;>rfl
theorem den (a0:Aid) (hb0:bdAid a0):Den Tryz.prog 59 [.agg (eAid a0)] (.bool (zxc a0)):=by
 generalize hR:zxc a0=r;unfold zxc at hR;refine di Tryz.func59 Tryz.ntmps59 Tryz.results59 ?_;intro c hL hc hk;obtain⟨hL0,_⟩:=hL;have hw0:bwAid a0:=y5 a0 hL0;clear hL0;simp only[pars,Nat.zero_add];iterate 2 refine rS ?_
 refine AWP.ret ?_;subst hR;exact es
end N59
def D_zxc : DF
 | [x0]=>some (.bool (zxc (rdG dAid x0)),false,[wG eAid dAid x0,bdAid (rdG dAid x0)])
 | _=>none
theorem ynj:OkD Tryz.prog 59 D_zxc:=by unfold D_zxc;exact dk N59.den
def y4j (a0:(List Aid)) (i1:Nat) (s1:Unit):Except (Bool) (Unit):=
 (bif ((!(zxc (a0.getD i1 default))) || (decide (0<(i1:Int)) && decide (((a0.getD i1 default).Number)<=((a0.getD ((IntKind.wrap .i64 ((i1:Int)-1)).toNat) default).Number))))then .error false else .ok ())
def zub (a0:(List Aid)):Bool:=
 (match yf (y4j a0) (a0.length-0) 0 ()with|.error e=>e|.ok s1=>(zyb (a0.length:Int) 24))
namespace N74
theorem DD:DOk Tryz.prog (Go.Ab.DD [(110,dP D_zyb),(59,dP D_zxc)]):=ya ych.e <| ya ynj.e <| ye _
theorem dn:type_of% (And.intro @D_zyb.eq_1 <| @D_zxc.eq_1):=by and_intros<;>intros<;>rfl
theorem den (a0:(List Aid)) (hb0:a0.length<1099511627776) (hb1:∀ v∈a0,bdAid v):Den Tryz.prog 74 [encL 16 eAid a0] (.bool (zub a0)):=by
 generalize hR:zub a0=r;unfold zub at hR;refine di Tryz.func74 Tryz.ntmps74 Tryz.results74 ?_;intro c hL hc hk;obtain⟨hL0,_⟩:=hL;have hw0:a0.length<9223372036854775808:=Nat.lt_succ_of_le (yc hL0).1;have hw1:∀ v∈a0,bwAid v:=fun v hv=>y5 v ((yc hL0).2 v hv)
 clear hL0;simp only[pars,Nat.zero_add];iterate 2 refine rS ?_
 refine AWP.block ?_;generalize hz1:yf (y4j a0) (a0.length-0) 0 ()=z1 at hR;refine AWP.range (y4j a0) (fun i1 s1=>⟨[(0,encL 16 eAid a0),(5,encL 16 eAid a0),(6,.int .i64 (a0.length:Int)),(7,.int .i64 (i1:Int))],[]⟩) (fun i1 s1=>True) (a0.length) 0 () [] hz1 ot wt sm ?_;clear hz1;intro i1 s1 hi1 hW1 hz1;refine rS ?_;refine AWP.seq ?_;refine AWP.cond rfl (fun hb => ?_) (fun hb => ?_)
 ·have hlt1:i1<a0.length:=ot
  rw[yp hlt1]at hz1;simp only[y4j]at hz1;refine rS ?_;refine rD 18 ?_;refine AWP.cond rfl (fun hb => ?_) (fun hb => ?_)
  ·simp only[hb,cond_true]at hz1
   refine rS ?_;refine AWP.ret ?_;subst hz1;dsimp only at hR;subst hR;exact es
  ·simp only[hb,cond_false]at hz1
   refine rS ?_;exact⟨_,[],hlt1,wt,hz1,sm⟩
 ·obtain rfl:i1=a0.length:=ot
  rw[yq (Nat.le_refl _)]at hz1;subst hz1;dsimp only at hR;refine AWP.exit ?_;refine yb ?_;refine rS ?_;refine AWP.ret ?_;subst hR;exact es
end N74
def D_zub : DF
 | [x0]=>some (.bool (zub (rdL dAid x0)),false,[wL 16 eAid dAid x0,(rdL dAid x0).length<1099511627776,∀ v∈(rdL dAid x0),bdAid v])
 | _=>none
theorem yej:OkD Tryz.prog 74 D_zub:=by unfold D_zub;exact dk N74.den
def zmb (a0:Aid):Bool:=
 (bif (((((!(zn a0.Number 1 9999)) || (!(zlc a0.Name))) || (!(zdc a0.At))) || (!(zn a0.Height 0 3000))) || (!(zuc a0.Mark)))then false else(bif (zvc a0.Light)then(((a0.Sectors.length:Int) == 0) && (a0.Intensity == 0))else(bif (((!(ztb a0.Light)) || (!(zn a0.Intensity 1 100000000))) || (!(zy a0.Sectors)))then false else(bif ((a0.Sectors.length:Int) == 0)then((a0.Light.Colors.length:Int) == 1)else((zlb a0.Sectors) == a0.Light.Colors)))))
namespace N53
theorem DD:DOk Tryz.prog (Go.Ab.DD [(118,dP D_zlc),(119,dP D_zdc),(120,dP D_zuc),(121,dP D_zvc),(122,dP D_ztb),(123,dP D_zy),(124,dP D_zlb),(95,dP D_zn)]):=ya yf0.e <| ya yn1.e <| ya yn2.e <| ya y13.e <| ya y33.e <| ya yt6.e <| ya y4u.e <| ya yig.e <| ye _
theorem dn:type_of% (And.intro @D_zlc.eq_1 <| And.intro @D_zdc.eq_1 <| And.intro @D_zuc.eq_1 <| And.intro @D_zvc.eq_1 <| And.intro @D_ztb.eq_1 <| And.intro @D_zy.eq_1 <| And.intro @D_zlb.eq_1 <| @D_zn.eq_1):=by and_intros<;>intros<;>rfl
theorem ol:type_of% (@zn.eq_1):=@zn.eq_1
theorem den (a0:Aid) (hb0:bdAid a0):Den Tryz.prog 53 [.ep (eAid a0)] (.bool (zmb a0)):=by
 generalize hR:zmb a0=r;unfold zmb at hR;refine di Tryz.func53 Tryz.ntmps53 Tryz.results53 ?_;intro c hL hc hk;obtain⟨hL0,_⟩:=hL;have hw0:bwAid a0:=y5 a0 hL0;clear hL0;simp only[pars,Nat.zero_add];iterate 2 refine rS ?_
 refine AWP.cond rfl (fun hb => ?_) (fun hb => ?_)
 ·replace hR:=ct hR
  refine rS ?_;refine AWP.ret ?_;subst hR;exact es
 ·replace hR:=cf hR
  refine rS ?_;refine AWP.cond rfl (fun hb => ?_) (fun hb => ?_)
  ·replace hR:=ct hR
   refine rS ?_;refine AWP.ret ?_;subst hR;exact es
  ·replace hR:=cf hR
   refine rS ?_;refine AWP.cond rfl (fun hb => ?_) (fun hb => ?_)
   ·replace hR:=ct hR
    refine rS ?_;refine AWP.ret ?_;subst hR;exact es
   ·replace hR:=cf hR
    refine rS ?_;refine AWP.cond rfl (fun hb => ?_) (fun hb => ?_)
    ·replace hR:=ct hR
     refine rS ?_;refine AWP.ret ?_;subst hR;exact es
    ·replace hR:=cf hR
     refine rD 11 ?_;refine AWP.ret ?_;subst hR;exact es
end N53
def D_zmb : DF
 | [x0]=>some (.bool (zmb (rdP dAid x0)),false,[wP eAid dAid x0,bdAid (rdP dAid x0)])
 | _=>none
theorem yc0:OkD Tryz.prog 53 D_zmb:=by unfold D_zmb;exact dk N53.den
def yti (a0:(List Aid)) (i1:Nat) (s1:Unit):Except (Bool) (Unit):=
 (bif ((!(zmb (a0.getD i1 default))) || (decide (0<(i1:Int)) && decide (((a0.getD i1 default).Number)<=((a0.getD ((IntKind.wrap .i64 ((i1:Int)-1)).toNat) default).Number))))then .error false else .ok ())
def zmc (a0:(List Aid)):Bool:=
 (match yf (yti a0) (a0.length-0) 0 ()with|.error e=>e|.ok s1=>decide ((a0.length:Int)<=24))
namespace N49
theorem DD:DOk Tryz.prog (Go.Ab.DD [(53,dP D_zmb)]):=ya yc0.e <| ye _
theorem dn:type_of% (@D_zmb.eq_1):=by and_intros<;>intros<;>rfl
theorem den (a0:(List Aid)) (hb0:a0.length<1099511627776) (hb1:∀ v∈a0,bdAid v):Den Tryz.prog 49 [encL 16 eAid a0] (.bool (zmc a0)):=by
 generalize hR:zmc a0=r;unfold zmc at hR;refine di Tryz.func49 Tryz.ntmps49 Tryz.results49 ?_;intro c hL hc hk;obtain⟨hL0,_⟩:=hL;have hw0:a0.length<9223372036854775808:=Nat.lt_succ_of_le (yc hL0).1;have hw1:∀ v∈a0,bwAid v:=fun v hv=>y5 v ((yc hL0).2 v hv)
 clear hL0;simp only[pars,Nat.zero_add];iterate 2 refine rS ?_
 refine AWP.block ?_;generalize hz1:yf (yti a0) (a0.length-0) 0 ()=z1 at hR;refine AWP.range (yti a0) (fun i1 s1=>⟨[(0,encL 16 eAid a0),(3,.int .i64 (i1:Int))],[]⟩) (fun i1 s1=>True) (a0.length) 0 () [] hz1 ot wt sm ?_;clear hz1;intro i1 s1 hi1 hW1 hz1;refine rS ?_;refine AWP.cond rfl (fun hb => ?_) (fun hb => ?_)
 ·have hlt1:i1<a0.length:=ot
  rw[yp hlt1]at hz1;simp only[yti]at hz1;refine rD 23 ?_;refine AWP.cond rfl (fun hb => ?_) (fun hb => ?_)
  ·simp only[hb,cond_true]at hz1
   refine rS ?_;refine AWP.ret ?_;subst hz1;dsimp only at hR;subst hR;exact es
  ·simp only[hb,cond_false]at hz1
   refine rS ?_;exact⟨_,[],hlt1,wt,hz1,sm⟩
 ·obtain rfl:i1=a0.length:=ot
  rw[yq (Nat.le_refl _)]at hz1;subst hz1;dsimp only at hR;refine AWP.exit ?_;refine yb ?_;refine rS ?_;refine AWP.ret ?_;subst hR;exact es
end N49
def D_zmc : DF
 | [x0]=>some (.bool (zmc (rdL dAid x0)),false,[wL 16 eAid dAid x0,(rdL dAid x0).length<1099511627776,∀ v∈(rdL dAid x0),bdAid v])
 | _=>none
theorem y43:OkD Tryz.prog 49 D_zmc:=by unfold D_zmc;exact dk N49.den
theorem yoq (c:Character) (h:zvc c=true):zib c=false:=by
 unfold zvc at h;simp only[Bool.and_eq_true,beq_iff_eq]at h;obtain⟨⟨⟨⟨h1,h2⟩,h3⟩,h4⟩,h5⟩:=h;cases c
 simp only at h1 h2 h3 h4 h5;rename_i k g l cs p
 have hg:g=[]:=List.length_eq_zero_iff.1 (by omega);subst h1 hg h3 h4 h5;decide
theorem yg2 (a:Aid):zuf a=((zvc a.Light && ((a.Sectors.length:Int) == 0)) && (a.Intensity == 0)):=by
 unfold zuf zve zvc;rw[y3f]
 have:decide (a.Light.Group=[])=((a.Light.Group.length:Int) == 0):=by
  cases a.Light.Group with
  | nil=>rfl
  | cons x l=>simp;omega
 rw[this]
theorem y8b (a:Aid) (hl:a.Light.Colors.length<9223372036854775808) (hs:a.Sectors.length<9223372036854775807):zxc a=zmb a:=by
 unfold zxc zmb;rw[yg2];unfold zne;rw[yub a.Sectors hs,y8i,ysd,ym6];have e1:zcg a.Number=zn a.Number 1 9999:=rfl;have e2:zld a.At=zdc a.At:=rfl;have e3:zdg a.Height=zn a.Height 0 3000:=rfl;have e4:zvf a.Intensity=zn a.Intensity 1 100000000:=rfl;rw[e1,e2,e3,e4]
 cases hp:zvc a.Light with
 | true=>
  rw[yoq _ hp];simp only[Bool.not_false,Bool.true_or,cond_true,Bool.true_and,Bool.false_or];cases zn a.Number 1 9999<;>cases zlc a.Name<;>cases zdc a.At<;>cases zn a.Height 0 3000<;>cases zuc a.Mark<;>rfl
 | false=>
  rw[yre a.Light hl];simp only[Bool.false_and,Bool.or_false,cond_false];cases zn a.Number 1 9999<;>cases zlc a.Name<;>cases zdc a.At<;>cases zn a.Height 0 3000<;>cases zuc a.Mark<;>rfl
theorem y0c (l:List Aid) (h:∀ v∈l,v.Light.Colors.length<9223372036854775808/\v.Sectors.length<9223372036854775807):zub l=zmc l:=by
 unfold zub zmc
 rw[y0l (b:=y4j l) (b':=yti l) (l.length-0) 0 () (fun j u _ hj=>by
  have:=ydg (p:=fun v:Aid=>v.Light.Colors.length<9223372036854775808/\v.Sectors.length<9223372036854775807) h ⟨by decide,by decide⟩ j
  simp only[y4j,yti,y8b _ this.1 this.2])]
 rfl
def InR (s:List Int):Prop:=∀ v∈s,0<=v/\v<=100
theorem InR.app {s t:List Int} (h1:InR s) (h2:InR t):InR (s++t):=fun v hv=>(List.mem_append.1 hv).elim (h1 v) (h2 v)
theorem InR.one {x:Int} (h1:0<=x) (h2:x<=100):InR [x]:=fun v hv=>by rw[List.mem_singleton]at hv;subst hv;exact⟨h1,h2⟩
theorem InR.nil:InR []:=fun v hv=>by simp at hv
theorem y2z (k:Int):0<=zfe k/\zfe k<=100:=by
 unfold zfe;simp only[Bool.cond_eq_ite];repeat' split
 all_goals omega
theorem yzr (k:Int):0<=znc k/\znc k<=20:=by
 unfold znc;simp only[Bool.cond_eq_ite];repeat' split
 all_goals omega
theorem y60 (k:Int):0<=IntKind.wrap .i64 (znc k+20)/\IntKind.wrap .i64 (znc k+20)<=100:=by
 have:=yzr k;rw[IntKind.wrap_i64];omega
theorem yny (c:Character) (h1:c.Group.length<=4) (h2:∀ v∈c.Group,1<=v/\v<=9):InR (zx c)/\(zx c).length<=80:=by
 have hf:=y2z c.Kind;have hg:=yzr c.Kind;have hw:=y60 c.Kind;unfold zx
 cases hk:(c.Kind == 8)with
 | true=>
  simp only[cond_true];have hm:(zbc ((c.Letter.getD 0 0).toNat:Int)).length<=4:=ytr _
  have hmr:∀ j,0<=(zbc ((c.Letter.getD 0 0).toNat:Int)).getD j default/\(zbc ((c.Letter.getD 0 0).toNat:Int)).getD j default<=100:=by
   intro j;rw[yeg,List.getD_eq_getElem?_getD,List.getElem?_map]
   cases(y6c.getD (IntKind.wrap .u8 (((c.Letter.getD 0 0).toNat:Int)-65)).toNat default)[j]? with
   | none=>show(0:Int)<=0/\(0:Int)<=100;omega
   | some x=>simp only[Option.map_some,Option.getD_some];split<;>omega
  obtain⟨t,q1,q2,q3⟩:=yqb (b:=y5o c) (fun i s=>InR s/\s.length<=2 * i) (k:=(zbc ((c.Letter.getD 0 0).toNat:Int)).length-0) (i:=0) (s:=[]) ⟨InR.nil,by simp⟩ (fun j u _ _ h=>by
   unfold y5o
   cases decide (0<(j:Int))with
   | true=>exact⟨_,rfl,(h.1.app (InR.one (by omega) (by omega))).app (InR.one (hmr j).1 (hmr j).2),by simp only[List.length_append,List.length_singleton];omega⟩
   | false=>exact⟨_,rfl,h.1.app (InR.one (hmr j).1 (hmr j).2),by simp only[List.length_append,List.length_singleton];omega⟩)
  rw[q1];exact⟨q2,by simp only;omega⟩
 | false=>
  simp only[cond_false]
  have hend:∀ s:List Int,InR s->s.length<=72->InR (bif (c.Letter == [76])then s++[znc c.Kind,20]else s)/\(bif (c.Letter == [76])then s++[znc c.Kind,20]else s).length<=80:=by
   intro s h3 h4
   cases(c.Letter == [76])with
   | true=>exact⟨h3.app (fun v hv=>by simp only[List.mem_cons,List.not_mem_nil,or_false]at hv;rcases hv with h|h<;>subst h<;>omega),by simp only[cond_true,List.length_append,List.length_cons,List.length_nil];omega⟩
   | false=>exact⟨h3,by simp only[cond_false];omega⟩
  cases hz:((c.Group.length:Int) == 0)with
  | true=>
   simp only[cond_true]
   obtain⟨t,q1,q2,q3⟩:=yqb (b:=y7q c) (fun i s=>InR s/\s.length<=18 * i) (k:=1-0) (i:=0) (s:=[]) ⟨InR.nil,by simp⟩ (fun j u _ hj h=>by
    unfold y7q;have hj0:j=0:=by omega
    obtain⟨t,q1,q2,q3⟩:=yqb (b:=y4p c j u) (fun i s=>InR s/\s.length<=18 * j+2 * i) (k:=(([1]:List Int).getD j default).toNat-0) (i:=0) (s:=u) ⟨h.1,by omega⟩ (fun i w _ hi h=>by
     unfold y4p
     cases decide (0<(i:Int))with
     | true=>exact⟨_,rfl,(h.1.app (InR.one hg.1 (by omega))).app (InR.one hf.1 hf.2),by simp only[List.length_append,List.length_singleton];omega⟩
     | false=>
      cases decide (0<(j:Int))with
      | true=>exact⟨_,rfl,(h.1.app (InR.one hw.1 hw.2)).app (InR.one hf.1 hf.2),by simp only[List.length_append,List.length_singleton];omega⟩
      | false=>exact⟨_,rfl,h.1.app (InR.one hf.1 hf.2),by simp only[List.length_append,List.length_singleton];omega⟩)
    rw[q1];subst hj0
    exact⟨t,rfl,q2,by simp only[List.getD_cons_zero]at q3;omega⟩)
   rw[q1];exact hend t q2 (by omega)
  | false=>
   simp only[cond_false]
   obtain⟨t,q1,q2,q3⟩:=yqb (b:=yyp c) (fun i s=>InR s/\s.length<=18 * i) (k:=c.Group.length-0) (i:=0) (s:=[]) ⟨InR.nil,by simp⟩ (fun j u _ hj h=>by
    unfold yyp;have hgj:=yzg h2 j
    obtain⟨t,q1,q2,q3⟩:=yqb (b:=y9p c j u) (fun i s=>InR s/\s.length<=18 * j+2 * i) (k:=(c.Group.getD j default).toNat-0) (i:=0) (s:=u) ⟨h.1,by omega⟩ (fun i w _ hi h=>by
     unfold y9p
     cases decide (0<(i:Int))with
     | true=>exact⟨_,rfl,(h.1.app (InR.one hg.1 (by omega))).app (InR.one hf.1 hf.2),by simp only[List.length_append,List.length_singleton];omega⟩
     | false=>
      cases decide (0<(j:Int))with
      | true=>exact⟨_,rfl,(h.1.app (InR.one hw.1 hw.2)).app (InR.one hf.1 hf.2),by simp only[List.length_append,List.length_singleton];omega⟩
      | false=>exact⟨_,rfl,h.1.app (InR.one hf.1 hf.2),by simp only[List.length_append,List.length_singleton];omega⟩)
    rw[q1]
    exact⟨t,rfl,q2,by omega⟩)
   rw[q1];exact hend t q2 (by omega)
theorem yy3 (l:List Int) (h:InR l) (hl:l.length<=80):0<=zud l/\zud l<=8000:=by
 unfold zud
 obtain⟨t,q1,q2,q3⟩:=yqb (b:=y6q l) (fun i s=>0<=s/\s<=100 * i) (k:=l.length-0) (i:=0) (s:=0) ⟨by omega,by omega⟩ (fun j u _ hj hI=>by
  have hx:0<=l.getD j default/\l.getD j default<=100:=by
   rw[List.getD_eq_getElem?_getD,List.getElem?_eq_getElem (by omega),Option.getD_some];exact h _ (List.getElem_mem _)
  refine⟨_,rfl,?_⟩
  rw[IntKind.wrap_i64];omega)
 rw[q1];exact⟨q2,by simp only;omega⟩
theorem yax (c:Character) (h:zqb c=true) (hs:zid c=false):0<zl c:=by
 obtain⟨g1,g2⟩:=y7c c h;obtain⟨t1,t2⟩:=yny c g1 g2;have t3:=yy3 _ t1 t2;have hg:=yzr c.Kind;unfold zl;rw[<- yqk,hs];simp only[cond_false]
 cases(c.Kind == 3)with
 | true=>simp
 | false=>
  simp only[cond_false]
  have hr:0<zgf c/\zgf c<=100:=by
   unfold zgf;simp only[Bool.cond_eq_ite];repeat' split
   all_goals (try rw[IntKind.wrap_i64]);(try rw[IntKind.wrap_i64]);omega
  rw[IntKind.wrap_i64];omega
theorem ydu (k:Int):(zqc k).length<=3:=by
 unfold zqc zzb;simp only[Bool.cond_eq_ite];split
 ·simp
 ·rw[List.getD_eq_getElem?_getD]
  have h:∀ x∈([[],[70],[79,99],[73,115,111],[70,108],[76,70,108],[81],[86,81],[77,111]]:List (List UInt8)),x.length<=3:=by decide
  cases hg:([[],[70],[79,99],[73,115,111],[70,108],[76,70,108],[81],[86,81],[77,111]]:List (List UInt8))[k.toNat]? with
  | none=>show(0:Nat)<=3;omega
  | some x=>exact h x (List.mem_of_getElem? hg)
theorem yfl (xs:List (List UInt8)) (h:∀ v∈xs,v.length<=20):(zkc xs [43]).length<=21 * xs.length/\(Go.Lib.join xs [43]).length<=21 * xs.length:=by
 have h1:=yrh [43] xs 20 h;simp only[List.length_singleton]at h1;exact⟨by show(Go.Lib.join xs [43]).length<=_;omega,by omega⟩
def y1m (a0:Character) (i1:Nat) (s1:List (List UInt8)):Except ((List UInt8)) (List (List UInt8)):=
 .ok (s1++[(zu (a0.Group.getD i1 default))])
def zpd (a0:Character):(List UInt8):=
 (bif (a0.Kind == 8)then(((zqc a0.Kind)++[40])++a0.Letter)++[41]else(bif decide (0<(a0.Group.length:Int))then(match yf (y1m a0) (a0.Group.length-0) 0 ([]:List (List UInt8))with|.error e=>e|.ok s1=>(bif (a0.Letter != [])then((zqc a0.Kind)++(([40]++(zkc s1 [43]))++[41]))++[43,76,70,108]else(zqc a0.Kind)++(([40]++(zkc s1 [43]))++[41])))else(bif (a0.Letter != [])then(zqc a0.Kind)++[43,76,70,108]else(zqc a0.Kind))))
namespace N141
theorem DD:DOk Tryz.prog (Go.Ab.DD [(223,dP D_zqc),(62,dP D_zkc),(63,dP D_zu)]):=ya yvt.e <| ya ymj.e <| ya y6j.e <| ye _
theorem dn:type_of% (And.intro @D_zqc.eq_1 <| And.intro @D_zkc.eq_1 <| @D_zu.eq_1):=by and_intros<;>intros<;>rfl
theorem gr {p:Prop} (h:p:=by(grind [yxe]);first|done|fail):p:=h
theorem o0 {p:Prop} (h:p:=by(first|(have h9:=yfl s1 (by first|exact hW1|exact hW1.2);first|omega|(simp only[ob,ln,List.length_singleton,List.length_append,List.length_cons,List.length_nil]at *;omega)|(and_intros<;>first|omega|(simp only[ob,ln,List.length_singleton,List.length_append,List.length_cons,List.length_nil]at *;omega)))|(have h9:=hg9 i1;and_intros<;>omega)|(simp only[ob,ln,List.length_singleton,List.length_append,List.length_cons,List.length_nil]at *;omega));first|done|fail):p:=h
theorem o1 {p:Prop} (h:p:=by(first|(have h9:=yfl s1 hW1.2;have h8:=hW1.1;simp only[ob,ln,List.length_singleton,List.length_append,List.length_cons,List.length_nil]at *;omega)|(have h9:=hg9 i1;omega));first|done|fail):p:=h
set_option maxHeartbeats 1000000 in
set_option maxRecDepth 20000 in
theorem den (a0:Character) (hb0:bdCharacter a0) (hp0:a0.Group.length<=4) (hp1:∀ v∈a0.Group,1<=v/\v<=9):Den Tryz.prog 141 [.agg (yi a0)] (.str (zpd a0)):=by
 generalize hR:zpd a0=r;unfold zpd at hR;refine di Tryz.func141 Tryz.ntmps141 Tryz.results141 ?_;intro c hL hc hk;obtain⟨hL0,_⟩:=hL;have hw0:bwCharacter a0:=yu a0 hL0;clear hL0;simp only[pars,Nat.zero_add];have hg9:∀ i:Nat,0<=a0.Group.getD i default/\a0.Group.getD i default<=9:=fun i=>yzg hp1 i
 have hk9:=ydu a0.Kind;iterate 3 refine rS ?_
 refine AWP.cond rfl (fun hb => ?_) (fun hb => ?_)
 ·replace hR:=ct hR
  refine rS ?_;refine AWP.ret ?_;subst hR;exact es
 ·replace hR:=cf hR
  refine rS ?_;refine AWP.cond rfl (fun hb => ?_) (fun hb => ?_)
  ·replace hR:=ct hR
   iterate 2 refine rS ?_
   refine AWP.block ?_;refine AWP.lensS 20 rfl (fun hLn1 => ?_);generalize hz1:yf (y1m a0) (a0.Group.length-0) 0 ([]:List (List UInt8))=z1 at hR;refine AWP.range (y1m a0) (fun i1 s1=>⟨[(1,.ptr 0 0),(3,.str (zqc a0.Kind)),(4,.ref 1 1 0 s1.length),(25,encL 1 yw a0.Group),(26,.int .i64 (a0.Group.length:Int)),(27,.int .i64 (i1:Int))],[.box [.int .i64 a0.Kind,encL 1 yw a0.Group,.str a0.Letter,.str a0.Colors,.int .i64 a0.Period],.arr 9 1 s1.length (fun j=>eS (s1.getD j default))]⟩) (fun i1 s1=>s1.length<=([]:List (List UInt8)).length+1 * i1/\∀ v∈s1,v.length<=20) (a0.Group.length) 0 ([]:List (List UInt8)) [0,1] hz1 ot wt sm ?_;clear hz1;intro i1 s1 hi1 hW1 hz1;refine rS ?_;refine AWP.seq ?_;refine AWP.cond rfl (fun hb => ?_) (fun hb => ?_)
   ·have hlt1:i1<a0.Group.length:=ot
    rw[yp hlt1]at hz1;simp only[y1m]at hz1;iterate 3 refine rS ?_
    exact⟨_,[0,3],hlt1,by(and_intros<;>first|(simp only[ln,List.length_append,List.length_singleton,List.length_nil]at *;omega)|(intro v hv;exact(List.mem_append.1 hv).elim (fun h=>by first|exact hW1 v h|exact hW1.2 v h|exact hW1.2.2 v h) (fun h=>by rw[List.mem_singleton]at h;subst h;exact y4e _ (by have:=hg9 i1;omega) (by have:=hg9 i1;omega)))),hz1,sm⟩
   ·obtain rfl:i1=a0.Group.length:=ot
    rw[yq (Nat.le_refl _)]at hz1;subst hz1;dsimp only at hR;refine AWP.exit ?_;refine yb ?_;iterate 2 refine rS ?_
    refine AWP.cond rfl (fun hb => ?_) (fun hb => ?_)
    ·replace hR:=ct hR
     iterate 2 refine rS ?_
     refine AWP.ret ?_;subst hR;exact es
    ·replace hR:=cf hR
     refine rS ?_;refine AWP.ret ?_;subst hR;exact es
  ·replace hR:=cf hR
   refine rS ?_;refine AWP.cond rfl (fun hb => ?_) (fun hb => ?_)
   ·replace hR:=ct hR
    iterate 2 refine rS ?_
    refine AWP.ret ?_;subst hR;exact es
   ·replace hR:=cf hR
    refine rS ?_;refine AWP.ret ?_;subst hR;exact es
end N141
def D_zpd : DF
 | [x0]=>some (.str (zpd (rdG yd x0)),false,[wG yi yd x0,bdCharacter (rdG yd x0),(rdG yd x0).Group.length<=4,∀ v∈(rdG yd x0).Group,1<=v/\v<=9])
 | _=>none
theorem yw2:OkD Tryz.prog 141 D_zpd:=by unfold D_zpd;exact dk N141.den
end Go.Ab
