/- A part of a proof: walks of functions and lemmas of our own. No conditions. -/
import Derived.Test.YtjngmicjnheliaaGreatDoorQAl
import Derived.Test.YtjngmicjnheliaaGreatDoorQAk
import Derived.Test.YtjngmicjnheliaaGreatDoorQAp
import Derived.Test.YtjngmicjnheliaaGreatDoorQAu
import Derived.Test.YtjngmicjnheliaaGreatDoorQAn
import Derived.Test.YtjngmicjnheliaaGreatDoorQAs
import Derived.Test.YtjngmicjnheliaaGreatDoorQAr
import Derived.Test.YtjngmicjnheliaaGreatDoorQAt
import Derived.Test.YtjngmicjnheliaaGreatDoorQAi
import Derived.Test.YtjngmicjnheliaaGreatDoorQAo
import Derived.Test.YtjngmicjnheliaaGreatDoorQAq
set_option linter.unusedSectionVars false
set_option linter.unusedVariables false
set_option linter.unusedSimpArgs false
set_option maxHeartbeats 1000000
namespace Go.Ab
open Go Go.Proofs
def y9l (a0:Character) (a1:(List UInt8)) (i1:Nat) (s1:List Phase):Except ((List Phase)) (List Phase):=
 (bif (((i1:Int).tmod 2) == 0)then .ok (s1++[{ Color:=[],Length:=((ze a0).getD i1 default):Phase }])else .ok (s1++[{ Color:=a1,Length:=((ze a0).getD i1 default):Phase }]))
def y6k (a0:Character) (a1:(List UInt8)) (i2:Nat) (s2:List Phase):Except ((List Phase)) (List Phase):=
 (bif (((i2:Int).tmod 2) == 0)then .ok (s2++[{ Color:=a1,Length:=((ze a0).getD i2 default):Phase }])else .ok (s2++[{ Color:=[],Length:=((ze a0).getD i2 default):Phase }]))
def zq (a0:Character) (a1:(List UInt8)):(List Phase):=
 (bif (a0.Kind == 2)then(bif (a0.Kind == 1)then[{ Color:=a1,Length:=10:Phase }]else(bif (a0.Kind == 3)then[{ Color:=a1,Length:=IntKind.wrap .i64 (a0.Period.tdiv 2):Phase },{ Color:=[],Length:=IntKind.wrap .i64 (a0.Period.tdiv 2):Phase }]else(bif (zgb a0)then[{ Color:=a1,Length:=(zg a0.Kind).1:Phase },{ Color:=[],Length:=(zg a0.Kind).2.1:Phase }]else(match yf (y9l a0 a1) (((ze a0).length)-0) 0 ([]:List Phase)with|.error e=>e|.ok s1=>s1++[{ Color:=a1,Length:=IntKind.wrap .i64 (a0.Period-(zyb (ze a0))):Phase }]))))else(bif (a0.Kind == 1)then[{ Color:=a1,Length:=10:Phase }]else(bif (a0.Kind == 3)then[{ Color:=a1,Length:=IntKind.wrap .i64 (a0.Period.tdiv 2):Phase },{ Color:=[],Length:=IntKind.wrap .i64 (a0.Period.tdiv 2):Phase }]else(bif (zgb a0)then[{ Color:=a1,Length:=(zg a0.Kind).1:Phase },{ Color:=[],Length:=(zg a0.Kind).2.1:Phase }]else(match yf (y6k a0 a1) (((ze a0).length)-0) 0 ([]:List Phase)with|.error e=>e|.ok s2=>s2++[{ Color:=[],Length:=IntKind.wrap .i64 (a0.Period-(zyb (ze a0))):Phase }])))))
namespace N54
theorem DD:DOk Tryz.prog (Go.Ab.DD [(78,dP D_zgb),(90,dP D_zg),(91,dP D_ze),(92,dP D_zyb)]):=ya ypj.e <| ya ytn.e <| ya yct.e <| ya yho.e <| ye _
theorem dn:type_of% (And.intro @D_zgb.eq_1 <| And.intro @D_zg.eq_1 <| And.intro @D_ze.eq_1 <| @D_zyb.eq_1):=by and_intros<;>intros<;>rfl
theorem o0 {p:Prop} (h:p:=by(first|(exact Nat.le_refl _)|(with_reducible exact hp2.1)|(with_reducible exact hp2.2.1)|(with_reducible exact hp2.2.2)|(with_reducible exact hcg.1)|(with_reducible exact fun v hv=>(hcg.2.1 v hv).2)|(have h8:=hti (by assumption) (by assumption);have h9:=hW1;simp only[List.length_nil]at h9;omega)|(have h8:=hti (by assumption) (by assumption);have h9:=hW2;simp only[List.length_nil]at h9;omega)|(exact⟨hp2,hcg.1,fun v hv=>(hcg.2.1 v hv).2,hcg.2.2⟩)|(exact⟨hp2,hcg.1,fun v hv=>(hcg.2.1 v hv).2⟩));first|done|fail):p:=h
theorem o2 {p:Prop} (h:p:=by(first|((repeat' with_reducible apply And.intro)<;>first|(simp only[List.length_append,List.length_singleton];(first|done|fail))|(rw[IntKind.wrap_i64];omega)|(intro j hj;by_cases hji:j<s1.length;(focus(simp only[y6g hji,yhn hji,cond_true];first|(first|done|fail)|with_reducible rfl));(have e0:j-s1.length=0:=by omega);(simp only[ysh hji hj,y0n hji,cond_false,e0,elt,borrowL,borrow];first|(first|done|fail)|with_reducible rfl))|decide)|((repeat' with_reducible apply And.intro)<;>first|(simp only[List.length_append,List.length_singleton];(first|done|fail))|(rw[IntKind.wrap_i64];omega)|(intro j hj;by_cases hji:j<s2.length;(focus(simp only[y6g hji,yhn hji,cond_true];first|(first|done|fail)|with_reducible rfl));(have e0:j-s2.length=0:=by omega);(simp only[ysh hji hj,y0n hji,cond_false,e0,elt,borrowL,borrow];first|(first|done|fail)|with_reducible rfl))|decide));first|done|fail):p:=h
theorem o3 {p:Prop} (h:p:=by(first|(generalize zyb (ze a0)=zz;generalize IntKind.wrap .i64 (a0.Period-zz)=zy;exact cl));first|done|fail):p:=h
theorem lx {p:Prop} (h:p:=by(exact lxx);first|done|fail):p:=h
set_option maxHeartbeats 2000000 in
set_option maxRecDepth 20000 in
theorem den (a0:Character) (a1:(List UInt8)) (hp0:zi a0=true) (hp1:a1.length<=1) (hp2:bdCharacter a0):Den Tryz.prog 54 [.agg (eCharacter a0),.str a1] (ownL 105 2 ym (zq a0 a1)):=by
 generalize hR:zq a0 a1=r;unfold zq at hR;refine di Tryz.func54 Tryz.ntmps54 Tryz.results54 ?_;intro c hL hc hk;obtain⟨hL0,hL1,_⟩:=hL;have hw0:bwCharacter a0:=yj a0 hL0;have hw1:a1.length<9223372036854775808:=Nat.lt_succ_of_le hL1;clear hL0 hL1;simp only[pars,Nat.zero_add];have hcg:=yse hp0;have hti:(a0.Kind == 1)=false->(a0.Kind == 3)=false->(ze a0).length<=100:=fun h1 h3=>(yfh hp0 hp2 (by simpa using h1) (by simpa using h3)).2
 iterate 3 refine rS ?_
 refine AWP.cond rfl (fun hb => ?_) (fun hb => ?_)
 ·replace hR:=ct hR
  iterate 3 refine rS ?_
  refine AWP.cond rfl (fun hb => ?_) (fun hb => ?_)
  ·replace hR:=ct hR
   refine rS ?_;refine AWP.ret ?_;subst hR;exact es
  ·replace hR:=cf hR
   refine rS ?_;refine AWP.cond rfl (fun hb => ?_) (fun hb => ?_)
   ·replace hR:=ct hR
    refine rS ?_;refine AWP.ret ?_;subst hR;exact es
   ·replace hR:=cf hR
    refine rS ?_;refine AWP.cond rfl (fun hb => ?_) (fun hb => ?_)
    ·replace hR:=ct hR
     iterate 2 refine rS ?_
     refine AWP.ret ?_;subst hR;exact es
    ·replace hR:=cf hR
     iterate 2 refine rS ?_
     refine AWP.block ?_;generalize hz1:yf (y9l a0 a1) (((ze a0).length)-0) 0 ([]:List Phase)=z1 at hR;refine AWP.range (y9l a0 a1) (fun i1 s1=>⟨[(2,.ptr 0 0),(5,.str []),(6,.str a1),(13,.ref 1 2 0 s1.length),(67,.ref 2 1 0 ((ze a0).length)),(68,.int .i64 ((ze a0).length:Int)),(69,.int .i64 (i1:Int))],[.box [.int .i64 a0.Kind,encL 1 yq a0.Group,.str a0.Letter,.str a0.Colors,.int .i64 a0.Period],.arr 105 2 s1.length (fun j=>ym (s1.getD j default)),.arr 2 1 (ze a0).length (fun j=>yq ((ze a0).getD j default))]⟩) (fun i1 s1=>s1.length<=([]:List Phase).length+1 * i1) (((ze a0).length)) 0 ([]:List Phase) [0,1,2] hz1 ot wt sm ?_;clear hz1;intro i1 s1 hi1 hW1 hz1;refine rS ?_;refine AWP.seq ?_;refine AWP.cond rfl (fun hb => ?_) (fun hb => ?_)
     ·have hlt1:i1<((ze a0).length):=ot
      rw[yg hlt1]at hz1;simp only[y9l]at hz1;iterate 2 refine rS ?_
      refine AWP.cond rfl (fun hb => ?_) (fun hb => ?_)
      ·simp only[hb,cond_true]at hz1
       iterate 2 refine rS ?_
       exact⟨_,[0,4,2],hlt1,wt,hz1,sm⟩
      ·simp only[hb,cond_false]at hz1
       iterate 2 refine rS ?_
       exact⟨_,[0,4,2],hlt1,wt,hz1,sm⟩
     ·obtain rfl:i1=((ze a0).length):=ot
      rw[yh (Nat.le_refl _)]at hz1;subst hz1;dsimp only at hR;refine AWP.exit ?_;refine yc ?_;refine AWP.seq ?_;refine AWP.regP mixed G_ok DD hc 11 [0,1,2,3,4] (.alt 5 [6,7,8] [0,1,2,3,6,7,8] (.alt 9 [] [0] (.alt 10 [] [] .leaf .stop) .stop) .stop) (by kernel_rfl) (by kernel_rfl) (by kernel_rfl) (fun K hK => ?_);simp only[yan,runN,runP,ywc,nthO,ea,absV,absVL,cput,gv,sv,dn,reduceCtorEq,reduceIte,Nat.reduceBEq,Nat.reduceAdd,Nat.reduceEqDiff,Nat.reduceLT,Nat.reduceLeDiff,Nat.reduceMul,Nat.reduceSub,BEq.rfl,beq_self_eq_true,Int.reduceToNat];repeat' apply And.intro
      all_goals first|refine hK _ ?_|exact ot
      all_goals clear hK K
      refine AWP.ret ?_;subst hR;exact es
 ·replace hR:=cf hR
  iterate 2 refine rS ?_
  refine AWP.cond rfl (fun hb => ?_) (fun hb => ?_)
  ·replace hR:=ct hR
   refine rS ?_;refine AWP.ret ?_;subst hR;exact es
  ·replace hR:=cf hR
   refine rS ?_;refine AWP.cond rfl (fun hb => ?_) (fun hb => ?_)
   ·replace hR:=ct hR
    refine rS ?_;refine AWP.ret ?_;subst hR;exact es
   ·replace hR:=cf hR
    refine rS ?_;refine AWP.cond rfl (fun hb => ?_) (fun hb => ?_)
    ·replace hR:=ct hR
     iterate 2 refine rS ?_
     refine AWP.ret ?_;subst hR;exact es
    ·replace hR:=cf hR
     iterate 2 refine rS ?_
     refine AWP.block ?_;generalize hz2:yf (y6k a0 a1) (((ze a0).length)-0) 0 ([]:List Phase)=z2 at hR;refine AWP.range (y6k a0 a1) (fun i2 s2=>⟨[(2,.ptr 0 0),(5,.str a1),(6,.str []),(13,.ref 1 2 0 s2.length),(67,.ref 2 1 0 ((ze a0).length)),(68,.int .i64 ((ze a0).length:Int)),(69,.int .i64 (i2:Int))],[.box [.int .i64 a0.Kind,encL 1 yq a0.Group,.str a0.Letter,.str a0.Colors,.int .i64 a0.Period],.arr 105 2 s2.length (fun j=>ym (s2.getD j default)),.arr 2 1 (ze a0).length (fun j=>yq ((ze a0).getD j default))]⟩) (fun i2 s2=>s2.length<=([]:List Phase).length+1 * i2) (((ze a0).length)) 0 ([]:List Phase) [0,1,2] hz2 ot wt sm ?_;clear hz2;intro i2 s2 hi2 hW2 hz2;refine rS ?_;refine AWP.seq ?_;refine AWP.cond rfl (fun hb => ?_) (fun hb => ?_)
     ·have hlt2:i2<((ze a0).length):=ot
      rw[yg hlt2]at hz2;simp only[y6k]at hz2;iterate 2 refine rS ?_
      refine AWP.cond rfl (fun hb => ?_) (fun hb => ?_)
      ·simp only[hb,cond_true]at hz2
       iterate 2 refine rS ?_
       exact⟨_,[0,4,2],hlt2,wt,hz2,sm⟩
      ·simp only[hb,cond_false]at hz2
       iterate 2 refine rS ?_
       exact⟨_,[0,4,2],hlt2,wt,hz2,sm⟩
     ·obtain rfl:i2=((ze a0).length):=ot
      rw[yh (Nat.le_refl _)]at hz2;subst hz2;dsimp only at hR;refine AWP.exit ?_;refine yc ?_;refine AWP.seq ?_;refine AWP.regP mixed G_ok DD hc 11 [0,1,2,3,4] (.alt 5 [6,7,8] [0,1,2,3,6,7,8] (.alt 9 [] [0] (.alt 10 [] [] .leaf .stop) .stop) .stop) (by kernel_rfl) (by kernel_rfl) (by kernel_rfl) (fun K hK => ?_);simp only[yan,runN,runP,ywc,nthO,ea,absV,absVL,cput,gv,sv,dn,reduceCtorEq,reduceIte,Nat.reduceBEq,Nat.reduceAdd,Nat.reduceEqDiff,Nat.reduceLT,Nat.reduceLeDiff,Nat.reduceMul,Nat.reduceSub,BEq.rfl,beq_self_eq_true,Int.reduceToNat];repeat' apply And.intro
      all_goals first|refine hK _ ?_|exact ot
      all_goals clear hK K
      refine AWP.ret ?_;subst hR;exact es
end N54
def D_zq : DF
 | [x0,x1]=>some (ownL 105 2 ym (zq (rdG yb x0) (rdS x1)),false,[wG eCharacter yb x0,wS x1,zi (rdG yb x0)=true,(rdS x1).length<=1,bdCharacter (rdG yb x0)])
 | _=>none
def Dz_zq : DF
 | [x0,x1]=>some (ownL 105 2 ym (zq (rdG yb x0) (rdS x1)),true,[wG eCharacter yb x0,wS x1,zi (rdG yb x0)=true,(rdS x1).length<=1,bdCharacter (rdG yb x0)])
 | _=>none
theorem yty:OkD Tryz.prog 54 D_zq:=by unfold D_zq;exact dk N54.den
theorem yyu:OkD Tryz.prog 54 Dz_zq:=by unfold Dz_zq;exact dk N54.den
theorem yzt (c:Character):8<=zxc c/\zxc c<=45:=by
 have hg:=yvg c.Kind;unfold zxc;have e1:IntKind.wrap .i64 (zk c.Kind+5)=zk c.Kind+5:=by rw[IntKind.wrap_i64];omega
 have e2:IntKind.wrap .i64 (zk c.Kind+5+20)=zk c.Kind+25:=by rw[IntKind.wrap_i64];omega
 rw[e1,e2];simp only[Bool.cond_eq_ite]
 (repeat' split)<;>omega
theorem y4q {c:Character} (h:zi c=true) (h3:(c.Kind == 3)=false) (hs:zdb c=false):8<=IntKind.wrap .i64 (c.Period-zp (za c))/\IntKind.wrap .i64 (c.Period-zp (za c))<=600:=by
 obtain⟨g1,g2,_⟩:=yse h;have ht:=y1e c g1 g2;obtain⟨t1,t2,t3⟩:=ykt ht (by decide);have hl:=ht.1;have hr:=yzt c;unfold zi at h;rw[y0c (by unfold zi;exact h),hs,h3]at h;unfold zmd at h;rw[hs,h3]at h;simp only[Bool.not_true,cond_false,Bool.false_and]at h;rw[show IntKind.wrap .i64 (zp (za c)+zxc c)=zp (za c)+zxc c by rw[IntKind.wrap_i64];omega]at h;unfold zb at h;simp only[Bool.and_eq_true,decide_eq_true_eq]at h;rw[IntKind.wrap_i64];omega
theorem ytx {c:Character} (h:zi c=true) (h3:(c.Kind == 3)=true):10<=IntKind.wrap .i64 (c.Period.tdiv 2)/\IntKind.wrap .i64 (c.Period.tdiv 2)<=300:=by
 have hk:c.Kind=3:=by simpa using h3
 have hs:zdb c=false:=by unfold zdb;rw[hk];rfl
 unfold zi at h;rw[y0c (by unfold zi;exact h),hs]at h;unfold zmd at h;rw[hs,h3]at h
 have h9:zb c.Period 20 600=true:=by
  simp only[Bool.not_true,cond_false,cond_true,Bool.true_and]at h
  cases hm:(c.Period.tmod 2 != 0)with
  | true=>rw[hm]at h;cases h
  | false=>rw[hm]at h;exact h
 unfold zb at h9;simp only[Bool.and_eq_true,decide_eq_true_eq]at h9;rw[Int.tdiv_eq_ediv_of_nonneg (by omega),IntKind.wrap_i64];omega
def PhA (l:List Phase) (n:Nat):Prop:=l.length=n/\∀ v∈l,1<=v.Length/\v.Length<=1000/\v.Color.length<=1
theorem PhA.nil:PhA [] 0:=⟨rfl,fun v h=>by cases h⟩
theorem PhA.snoc {l:List Phase} {n:Nat} {c:List UInt8} {x:Int} (h:PhA l n) (hc:c.length<=1) (h1:1<=x) (h2:x<=1000):PhA (l++[{ Color:=c,Length:=x }]) (n+1):=by
 refine⟨by rw[List.length_append,List.length_singleton,h.1],fun v hv => ?_⟩;rcases List.mem_append.1 hv with hv|hv
 ·exact h.2 v hv
 ·rw[List.mem_singleton]at hv;subst hv;exact⟨h1,h2,hc⟩
theorem PhA.ok {l:List Phase} {n:Nat} (h:PhA l n) (h1:1<=n) (h2:n<=1000):PhOk l:=⟨by rw[h.1];exact h1,by rw[h.1];exact h2,h.2⟩
theorem yng {ρ:Type} (l:List Int) (hl:∀ v∈l,1<=v/\v<=1000) (b:Nat->List Phase->Except ρ (List Phase)) (hb:∀ i s,∃ c:List UInt8,c.length<=1/\b i s=.ok (s++[{ Color:=c,Length:=l.getD i default }])) (n:Nat) (hn:n=l.length):∃ t,yf b (n-0) 0 []=.ok t/\PhA t n:=by
  obtain⟨t,h1,h2⟩:=yl (b:=b) (fun j s=>PhA s j) (k:=n-0) (i:=0) (s:=[]) PhA.nil (by
    intro j s _ hj hs;obtain⟨c,hc,e⟩:=hb j s;have hx:=hl _ (ysb (l:=l) (i:=j) (by omega))
    exact⟨_,e,hs.snoc hc hx.1 hx.2⟩)
  exact ⟨t, h1, by have e : 0 + (n - 0) = n := by omega
                   rw[e]at h2;exact h2⟩
theorem yzc {c:Character} {col:List UInt8} (h:zi c=true) (hc:col.length<=1):PhOk (zf c col):=by
 obtain⟨g1,g2,_⟩:=yse h;have ht:=y1e c g1 g2;have hg:=yvg c.Kind;have hl:=ht.1;unfold zf
 cases h1:(c.Kind == 1)with
 | true=>exact(PhA.nil.snoc (x:=10) hc (by decide) (by decide)).ok (by decide) (by decide)
 | false=>
  cases h3:(c.Kind == 3)with
  | true=>
   obtain⟨i1,i2⟩:=ytx h h3;exact((PhA.nil.snoc hc (by omega) (by omega)).snoc (c:=[]) (by simp) (by omega) (by omega)).ok (by decide) (by decide)
  | false=>
   have hm:∀ x:Int,1<=x->x<=1000->∀ v∈za c++([x]:List Int),1<=v/\v<=1000:=fun x a1 a2 v hv=>by
    rcases List.mem_append.1 hv with hv|hv
    ·have:=ht.2 v hv;omega
    ·rw[List.mem_singleton]at hv;subst hv;exact⟨a1,a2⟩
   rw[cond_false,cond_false]
   cases hs:zdb c with
   | true=>
    rw[cond_true]
    obtain⟨t,e1,e2⟩:=yng (za c++([zk c.Kind]:List Int)) (hm _ (by omega) (by omega)) (yqf c col) (fun i s=>by
     unfold yqf
     cases(!((((i:Int).tmod 2) == 1) == (c.Kind == 2)))with
     | true=>exact⟨[],by simp,rfl⟩
     | false=>exact⟨col,hc,rfl⟩) ((za c).length+1) (by simp)
    rw[e1];exact e2.ok (by omega) (by omega)
   | false=>
    rw[cond_false];obtain⟨r1,r2⟩:=y4q h h3 hs
    obtain⟨t,e1,e2⟩:=yng (za c++([IntKind.wrap .i64 (c.Period-zp (za c))]:List Int)) (hm _ (by omega) (by omega)) (yhi c col) (fun i s=>by
     unfold yhi
     cases(!((((i:Int).tmod 2) == 1) == (c.Kind == 2)))with
     | true=>exact⟨[],by simp,rfl⟩
     | false=>exact⟨col,hc,rfl⟩) ((za c).length+1) (by simp)
    rw[e1];exact e2.ok (by omega) (by omega)
theorem y9i {c:Character} {col:List UInt8} (h:zi c=true) (hb:bdCharacter c) (hc:col.length<=1):PhOk (zq c col):=by
 obtain⟨g1,g2,_⟩:=yse h;have ht:=y1e c g1 g2;have hl:=ht.1;unfold zq
 cases h1:(c.Kind == 1)with
 | true=>
  have:=(PhA.nil.snoc (c:=col) (x:=10) hc (by decide) (by decide)).ok (by decide) (by decide);cases(c.Kind == 2)<;>exact this
 | false=>
  cases h3:(c.Kind == 3)with
  | true=>
   obtain⟨i1,i2⟩:=ytx h h3;have:=((PhA.nil.snoc (c:=col) hc (show 1<=IntKind.wrap .i64 (c.Period.tdiv 2)by omega) (by omega)).snoc (c:=[]) (x:=IntKind.wrap .i64 (c.Period.tdiv 2)) (by simp) (by omega) (by omega)).ok (by decide) (by decide);cases(c.Kind == 2)<;>exact this
  | false=>
   simp only[cond_false];rw[yld]
   cases hs:zdb c with
   | true=>
    have hk:c.Kind=6\/c.Kind=7:=by
     unfold zdb at hs;rw[h1]at hs;simp at hs;omega
    have hr:=yah c.Kind (by omega);have hf:=ymi c.Kind;have hg:=yvg c.Kind;have:=((PhA.nil.snoc (c:=col) (x:=(zg c.Kind).1) hc (by omega) (by omega)).snoc (c:=[]) (x:=(zg c.Kind).2.1) (by simp) (by omega) (by omega)).ok (by decide) (by decide);cases(c.Kind == 2)<;>exact this
   | false=>
    have he:=(yfh h hb (by simpa using h1) (by simpa using h3)).1;obtain⟨r1,r2⟩:=y4q h h3 hs;rw[yjs,he];have hm:∀ v∈za c,1<=v/\v<=1000:=fun v hv=>by have:=ht.2 v hv;omega
    cases(c.Kind == 2)with
    | true=>
     obtain⟨t,e1,e2⟩:=yng (za c) hm (y9l c col) (fun i s=>by
      unfold y9l;rw[he]
      cases(((i:Int).tmod 2) == 0)with
      | true=>exact⟨[],by simp,rfl⟩
      | false=>exact⟨col,hc,rfl⟩) (za c).length rfl
     simp only[cond_false,cond_true,e1];exact(e2.snoc hc (by omega) (by omega)).ok (by omega) (by omega)
    | false=>
     obtain⟨t,e1,e2⟩:=yng (za c) hm (y6k c col) (fun i s=>by
      unfold y6k;rw[he]
      cases(((i:Int).tmod 2) == 0)with
      | true=>exact⟨col,hc,rfl⟩
      | false=>exact⟨[],by simp,rfl⟩) (za c).length rfl
     simp only[cond_false,e1];exact(e2.snoc (c:=[]) (by simp) (by omega) (by omega)).ok (by omega) (by omega)
def phC (col:List UInt8) (v:Bool×Int):Phase:={ Color:=bif v.1 then col else[],Length:=v.2 }
theorem ynd {ρ α:Type} (g:Nat->α) {b:Nat->List α->Except ρ (List α)} (hb:∀ i s,b i s=.ok (s++[g i])) (n:Nat):yf b (n-0) 0 []=.ok ((List.range n).map g):=by
 obtain⟨t,h1,h2⟩:=yl (b:=b) (fun j s=>s=(List.range j).map g) (k:=n-0) (i:=0) (s:=[]) rfl (by
  rintro j _ _ _ rfl
  refine⟨_,hb _ _,?_⟩;rw[List.range_succ,List.map_append]
  rfl)
 rw[h1,h2,show 0+(n-0)=n by omega]
theorem yoe (c:Character):∃ K:List (Bool×Int),∀ col,zf c col=K.map (phC col):=by
 cases h1:(c.Kind == 1)with
 | true=>exact⟨[(true,10)],fun col=>by unfold zf;rw[h1];rfl⟩
 | false=>
  cases h3:(c.Kind == 3)with
  | true=>exact⟨[(true,IntKind.wrap .i64 (c.Period.tdiv 2)),(false,IntKind.wrap .i64 (c.Period.tdiv 2))],fun col=>by unfold zf;rw[h1,h3];rfl⟩
  | false=>
   cases hs:zdb c with
   | true=>
    refine⟨(List.range ((za c).length+1)).map fun(i:Nat)=>(((((i:Int).tmod 2) == 1) == (c.Kind == 2)),((za c)++([(zk c.Kind)]:List Int)).getD i default),fun col => ?_⟩;unfold zf;rw[h1,h3,hs];simp only[cond_false,cond_true]
    rw[ynd (fun(i:Nat)=>phC col (((((i:Int).tmod 2) == 1) == (c.Kind == 2)),((za c)++([(zk c.Kind)]:List Int)).getD i default)) (b:=yqf c col) (fun i s=>by
     unfold yqf phC
     cases((((i:Int).tmod 2) == 1) == (c.Kind == 2))<;>rfl)]
    rw[List.map_map];rfl
   | false=>
    refine⟨(List.range ((za c).length+1)).map fun(i:Nat)=>(((((i:Int).tmod 2) == 1) == (c.Kind == 2)),((za c)++([IntKind.wrap .i64 (c.Period-(zp (za c)))]:List Int)).getD i default),fun col => ?_⟩;unfold zf;rw[h1,h3,hs];simp only[cond_false,cond_true]
    rw[ynd (fun(i:Nat)=>phC col (((((i:Int).tmod 2) == 1) == (c.Kind == 2)),((za c)++([IntKind.wrap .i64 (c.Period-(zp (za c)))]:List Int)).getD i default)) (b:=yhi c col) (fun i s=>by
     unfold yhi phC
     cases((((i:Int).tmod 2) == 1) == (c.Kind == 2))<;>rfl)]
    rw[List.map_map];rfl
theorem ywj (x:UInt8) (K:List (Bool×Int)):One x (K.map (phC [x])):=fun v hv=>by
 obtain⟨w,_,rfl⟩:=List.mem_map.1 hv;unfold phC
 cases w.1 with
 | true=>exact .inr rfl
 | false=>exact .inl rfl
theorem yyp (x y:UInt8) (K:List (Bool×Int)):tenB (K.map (phC [x]))=tenB (K.map (phC [y])):=by
 unfold tenB;rw[List.flatMap_map,List.flatMap_map];congr 1
 funext v
 unfold phC;cases v.1<;>rfl
theorem yyk {c:Character} (h:zi c=true):∃ R:List Bool,R.length<=1000000/\∀ x:UInt8,x.toNat≠0->zl (zf c [x])=R.map (cs x):=by
 obtain⟨K,hK⟩:=yoe c;have hp:∀ x:UInt8,PhOk (zf c [x]):=fun x=>yzc h (by simp)
 obtain⟨R,e,hN⟩:=ych (x:=1) (by decide) (hp 1) (by rw[hK];exact ywj 1 K);have hl:=y1d (hp 1);have hl2:=yve (hp 1);rw[e,List.length_map]at hl;refine⟨R,by omega,fun x hx => ?_⟩;obtain⟨R',e',hN'⟩:=ych hx (hp x) (by rw[hK];exact ywj x K);rw[e',yak hN (R':=R') (by rw[hK,yyp 1 x K, <- hK];exact hN')]
theorem yww {a b:Character} {w:Int} (ha:zi a=true) (hb:zi b=true) (hw:0<=w/\w<=20):∃ P:Prop,∀ x:UInt8,x.toNat≠0->(zw (zf a [x]) (zf b [x]) w=true↔P)/\(zpb (zf a [x]) (zf b [x]) w=true↔P):=by
 obtain⟨Ra,la,ea⟩:=yyk ha;obtain⟨Rb,lb,eb⟩:=yyk hb;refine⟨CloB (yji Ra) (yji Rb) w,fun x hx => ?_⟩;obtain⟨Ka,hKa⟩:=yoe a;obtain⟨Kb,hKb⟩:=yoe b;obtain⟨ja,ja2,ja3⟩:=yil x la;obtain⟨jb,jb2,jb3⟩:=yil x lb;have sa:Sm (yji Ra):=⟨by omega,fun v hv=>by have:=ja3 v hv;omega⟩
 have sb:Sm (yji Rb):=⟨by omega,fun v hv=>by have:=jb3 v hv;omega⟩
 have iA:zj (zl (zf a [x]))=(yji Ra).map (phB x):=by rw[ea x hx,ja]
 have iB:zj (zl (zf b [x]))=(yji Rb).map (phB x):=by rw[eb x hx,jb]
 have nA:=y0l hx (yzc (col:=[x]) ha (by simp)) (by rw[hKa];exact ywj x Ka);have nB:=y0l hx (yzc (col:=[x]) hb (by simp)) (by rw[hKb];exact ywj x Kb);exact⟨ycv (nA.trans iA) (nB.trans iB) sa sb hw,ynt iA iB sa sb⟩
theorem yql {b:Nat->List Int->Except (List Int) (List Int)} (i:Nat) (hb:∀ j s,∃ t,b j s=.ok t/\t.length=s.length+(if i=0/\j=0 then 1 else 2)) (n:Nat) (s:List Int) :
  ∃ t,yf b (n-0) 0 s=.ok t/\t.length=s.length+2 * n-(if i=0/\0<n then 1 else 0):=by
 obtain⟨t,h1,h2⟩:=yl (b:=b) (fun j t=>t.length=s.length+2 * j-(if i=0/\0<j then 1 else 0)) (k:=n-0) (i:=0) (s:=s) (by simp) (by
  intro j t _ _ ht;obtain⟨u,e1,e2⟩:=hb j t;refine⟨u,e1,?_⟩;rw[e2,ht]
  (repeat' split)<;>omega)
 exact⟨t,h1,by rw[h2,show 0+(n-0)=n by omega]⟩
theorem yir:∀ k:Fin 26,1<=(zo (65+(k.val:Int))).length:=by decide +kernel
theorem yis {c:Character} (h:zi c=true):(za c).length % 2=1:=by
 obtain⟨g1,g2,g3⟩:=yse h
 have fin:∀ {s:List Int},s.length % 2=1->(bif (c.Letter == [76])then s++([(zk c.Kind),20]:List Int)else s).length % 2=1:=fun {s} h=>by
  cases(c.Letter == [76])with
  | true=>rw[cond_true,List.length_append];simp only[List.length_cons,List.length_nil];omega
  | false=>exact h
 unfold za
 cases h8:(c.Kind == 8)with
 | true=>
  obtain⟨l1,l2,l3⟩:=g3 (by simpa using h8);have hm:=yir ⟨(c.Letter.getD 0 0).toNat-65,by omega⟩;rw[show(65:Int)+(((c.Letter.getD 0 0).toNat-65:Nat):Int)=((c.Letter.getD 0 0).toNat:Int)by omega]at hm
  obtain⟨t,h1,h2⟩:=yl (b:=yig c) (fun j t=>t.length=2 * j-(if 0<j then 1 else 0)) (k:=(zo ((c.Letter.getD 0 0).toNat:Int)).length-0) (i:=0) (s:=[]) (by simp) (by
   intro j t _ hj ht;unfold yig;by_cases h0:j=0
   ·subst h0
    exact⟨_,rfl,by simp at ht;simp[ht]⟩
   ·rw[decide_eq_true (show(0:Int)<(j:Int)by omega),cond_true]
    refine⟨_,rfl,?_⟩;rw[if_pos (by omega)]at ht;rw[if_pos (by omega),List.length_append,List.length_append,List.length_singleton,List.length_singleton,ht]
    omega)
  rw[cond_true,h1];simp only;rw[h2,if_pos (by omega)];omega
 | false=>
  rw[cond_false]
  cases hz:((c.Group.length:Int) == 0)with
  | true=>
   rw[cond_true]
   obtain⟨u,e1,e2⟩:=yql (b:=yzf c 0 []) 0 (fun j s=>by
    unfold yzf;by_cases h0:j=0
    ·subst h0;exact⟨_,rfl,by simp⟩
    ·rw[decide_eq_true (show(0:Int)<(j:Int)by omega),cond_true]
     exact⟨_,rfl,by rw[if_neg (fun h=>h0 h.2)];simp⟩) 1 []
   have e4:yne c 0 []=.ok u:=by
    unfold yne;rw[show(([1]:List Int).getD 0 default).toNat=1 from rfl,e1]
   have e3:yf (yne c) (1-0) 0 []=.ok u:=by
    simp only[show(1-0)=0+1 from rfl,yf,e4]
   rw[e3];simp only;exact fin (by rw[e2];simp)
  | false=>
   rw[cond_false];have hg0:1<=c.Group.length:=by rw[beq_eq_false_iff_ne]at hz;omega
   obtain⟨t,h1,h2⟩:=yl (b:=yfg c) (fun j t=>(j=0->t.length=0)/\(1<=j->t.length % 2=1)) (k:=c.Group.length-0) (i:=0) (s:=[]) ⟨fun _=>rfl,fun h=>by omega⟩ (by
    intro j t _ hj ⟨i1,i2⟩;have hx:=g2 _ (ysb (l:=c.Group) (i:=j) (by omega))
    obtain⟨u,e1,e2⟩:=yql (b:=yjg c j t) j (fun q s=>by
     unfold yjg;by_cases h0:q=0
     ·subst h0
      by_cases hj0:j=0
      ·subst hj0;exact⟨_,rfl,by simp⟩
      ·rw[decide_eq_false (by decide),cond_false,decide_eq_true (show(0:Int)<(j:Int)by omega),cond_true]
       exact⟨_,rfl,by rw[if_neg (fun h=>hj0 h.1)];simp⟩
     ·rw[decide_eq_true (show(0:Int)<(q:Int)by omega),cond_true]
      exact⟨_,rfl,by rw[if_neg (fun h=>h0 h.2)];simp⟩) (c.Group.getD j default).toNat t
    unfold yfg;rw[e1];refine⟨_,rfl,fun h=>by omega,fun _ => ?_⟩;rw[e2];by_cases hj0:j=0
    ·rw[if_pos ⟨hj0,by omega⟩,i1 hj0];omega
    ·have:=i2 (by omega)
     rw[if_neg (fun h=>hj0 h.1)];omega)
   rw[h1];exact fin (h2.2 (by omega))
theorem ylz (i:Nat):(((i:Int).tmod 2) == 0) = !(((i:Int).tmod 2) == 1):=by
 rw[Int.tmod_eq_emod_of_nonneg (by omega)];have h:(i:Int) % 2=0\/(i:Int) % 2=1:=by omega
 rcases h with h|h<;>rw[h]<;>rfl
theorem ydn {c:Character} (h:zi c=true) (h1:(c.Kind == 1)=false) (hs:zdb c=true):za c=[zhb c.Kind]:=by
 have hk:(c.Kind=6\/c.Kind=7)/\c.Group.length=0:=by
  unfold zdb at hs;rw[h1]at hs;simp at hs
  exact⟨hs.1,by rw[hs.2];rfl⟩
 have hL:(c.Letter == [76])=false:=by
  have hsh:=y0c h;unfold zqc at hsh
  cases hL:(c.Letter == [76])with
  | false=>rfl
  | true=>
   exfalso;rw[hL]at hsh;rcases hk.1 with k|k<;>simp[k,hk.2]at hsh
 have h8:(c.Kind == 8)=false:=by rw[beq_eq_false_iff_ne];omega
 have e1:yf (yzf c 0 []) (1-0) 0 []=.ok [zhb c.Kind]:=rfl
 have e4:yne c 0 []=.ok [zhb c.Kind]:=by
  unfold yne;rw[show(([1]:List Int).getD 0 default).toNat=1 from rfl,e1]
 unfold za;rw[h8,hL,show((c.Group.length:Int) == 0)=true by rw[hk.2];rfl];simp only[cond_false,cond_true,show(1-0)=0+1 from rfl,yf,e4]
theorem y4l {c:Character} {col:List UInt8} (h:zi c=true) (hb:bdCharacter c):zq c col=zf c col:=by
 unfold zq zf
 cases h1:(c.Kind == 1)with
 | true=>cases(c.Kind == 2)<;>rfl
 | false=>
  cases h3:(c.Kind == 3)with
  | true=>cases(c.Kind == 2)<;>rfl
  | false=>
   rw[yld];simp only[cond_false]
   cases hs:zdb c with
   | true=>
    have hk:c.Kind=6\/c.Kind=7:=by
     unfold zdb at hs;rw[h1]at hs;simp at hs;omega
    have hr:=yah c.Kind (by omega);have h2:(c.Kind == 2)=false:=by rw[beq_eq_false_iff_ne];omega
    have hq:=ydn h h1 hs;simp only[cond_true];rw[hq,hr.1,hr.2,h2]
    have s0:∀ s,yqf c col 0 s=.ok (s++[{ Color:=col,Length:=zhb c.Kind }]):=fun s=>by
     unfold yqf;rw[hq,h2];rfl
    have s1:∀ s,yqf c col 1 s=.ok (s++[{ Color:=[],Length:=zk c.Kind }]):=fun s=>by
     unfold yqf;rw[hq,h2];rfl
    show _=match yf (yqf c col) (1+1) 0 []with|.error e=>e|.ok s1=>s1
    simp only[yf,s0,s1];rfl
   | false=>
    have he:=(yfh h hb (by simpa using h1) (by simpa using h3)).1;have ho:=yis h;simp only[cond_false];rw[yjs,he]
    have hodd:(((za c).length:Int).tmod 2 == 1)=true:=by
     rw[Int.tmod_eq_emod_of_nonneg (by omega),beq_iff_eq];omega
    rw[ynd (fun(i:Nat)=>phC col (((((i:Int).tmod 2) == 1) == (c.Kind == 2)),((za c)++([IntKind.wrap .i64 (c.Period-(zp (za c)))]:List Int)).getD i default)) (b:=yhi c col) (fun i s=>by
     unfold yhi phC
     cases((((i:Int).tmod 2) == 1) == (c.Kind == 2))<;>rfl)]
    simp only;rw[List.range_succ,List.map_append]
    have hlast:(za c++([IntKind.wrap .i64 (c.Period-zp (za c))]:List Int)).getD (za c).length default=IntKind.wrap .i64 (c.Period-zp (za c)):=by
     rw[List.getD_eq_getElem?_getD,List.getElem?_append_right (Nat.le_refl _),Nat.sub_self];rfl
    have hin:∀ i,i<(za c).length->(za c++([IntKind.wrap .i64 (c.Period-zp (za c))]:List Int)).getD i default=(za c).getD i default:=fun i hi=>by
     rw[List.getD_eq_getElem?_getD,List.getElem?_append_left hi, <- List.getD_eq_getElem?_getD]
    simp only[List.map_cons,List.map_nil];rw[hlast,hodd]
    cases h2:(c.Kind == 2)with
    | true=>
     simp only[cond_true,cond_false]
     rw[ynd (fun(i:Nat)=>phC col ((((i:Int).tmod 2) == 1),(za c).getD i default)) (b:=y9l c col) (fun i s=>by
      unfold y9l phC;rw[ylz,he]
      cases(((i:Int).tmod 2) == 1)<;>rfl)]
     simp only;congr 1
     refine List.map_congr_left fun i hi => ?_
     rw[List.mem_range]at hi;rw[hin i hi];cases(((i:Int).tmod 2) == 1)<;>rfl
    | false=>
     simp only[cond_true,cond_false]
     rw[ynd (fun(i:Nat)=>phC col ((!(((i:Int).tmod 2) == 1)),(za c).getD i default)) (b:=y6k c col) (fun i s=>by
      unfold y6k phC;rw[ylz,he]
      cases(((i:Int).tmod 2) == 1)<;>rfl)]
     simp only;congr 1
     refine List.map_congr_left fun i hi => ?_
     rw[List.mem_range]at hi;rw[hin i hi];cases(((i:Int).tmod 2) == 1)<;>rfl
theorem yfq (c:List UInt8):zre c=zxd c:=by
 unfold zre zxd
 match c with
 | []=>rfl
 | [b]=>
  simp only[List.length_singleton,zt,List.getD_cons_zero,Go.Lib.indexByte];by_cases h1:b=87
  ·subst h1;rfl
  by_cases h2:b=82
  ·subst h2;rfl
  by_cases h3:b=71
  ·subst h3;rfl
  by_cases h4:b=89
  ·subst h4;rfl
  have e:∀ x:UInt8,b≠x->([b] == [x])=false:=by intro x h;simp[h]
  rw[e _ h1,e _ h2,e _ h3,e _ h4];have n1:¬ (87:UInt8)=b:=fun h=>h1 h.symm
  have n2:¬ (82:UInt8)=b:=fun h=>h2 h.symm
  have n3:¬ (71:UInt8)=b:=fun h=>h3 h.symm
  have n4:¬ (89:UInt8)=b:=fun h=>h4 h.symm
  simp[n1,n2,n3,n4]
 | a::b::t=>
  have e:∀ x:UInt8,((a::b::t) == [x])=false:=by intro x;simp
  rw[e,e,e,e];have:(((a::b::t).length:Int) == 1)=false:=by simp;omega
  rw[this];rfl
theorem yrr (s:Sector):zse s=zrc s:=by
 unfold zse zrc zwe;rw[yfq];rfl
theorem y8x (a:Int):a.tmod 360=if 0<=a then a % 360 else -((-a) % 360):=by
 split
 ·rw[Int.tmod_eq_emod_of_nonneg (by omega)]
 ·have e:a = -(-a):=by omega
  rw[e,Int.neg_tmod,Int.tmod_eq_emod_of_nonneg (by omega)];simp
theorem ytl (a:Int):zld a 360=a % 360:=by
 unfold zld;rw[y8x a]
 have e:IntKind.wrap .i64 ((if 0<=a then a % 360 else -((-a) % 360))+360)=(if 0<=a then a % 360 else -((-a) % 360))+360:=by
  rw[IntKind.wrap_i64];split<;>omega
 rw[e,y8x];split<;>split<;>omega
def brg (n:Int):Prop:=0<=n/\n<=359
theorem w64 {x:Int} (h1 : -9223372036854775808<=x) (h2:x<=9223372036854775807):IntKind.wrap .i64 x=x:=by rw[IntKind.wrap_i64];omega
def ypc (s:Sector):Int:=(s.To-s.From-1) % 360+1
theorem y0o (s:Sector) (h1:brg s.From) (h2:brg s.To):zoc s=ypc s:=by
 obtain⟨a1,a2⟩:=h1;obtain⟨b1,b2⟩:=h2;unfold zoc ypc;rw[w64 (x:=s.To-s.From) (by omega) (by omega),w64 (x:=s.To-s.From-1) (by omega) (by omega),ytl,w64 (by omega) (by omega)]
theorem ygw (s:Sector) (h1:brg s.From) (h2:brg s.To):zxe s=ypc s:=by
 obtain⟨a1,a2⟩:=h1;obtain⟨b1,b2⟩:=h2;unfold zxe ypc;rw[w64 (x:=s.To-s.From) (by omega) (by omega),w64 (x:=s.To-s.From+360) (by omega) (by omega),y8x,if_pos (by omega)]
 cases hb:((s.To-s.From+360) % 360 == 0)with
 | true=>have:=eq_of_beq hb;simp only[cond_true];omega
 | false=>
  have:(s.To-s.From+360) % 360≠0:=by intro h;rw[h]at hb;exact absurd hb (by decide)
  simp only[cond_false];omega
theorem ylp (s:Sector) (b:Int) (h1:brg s.From) (h2:brg s.To) (h3:brg b):zud s b=decide ((b-s.From) % 360<ypc s):=by
 unfold zud;obtain⟨a1,a2⟩:=h1;obtain⟨c1,c2⟩:=h3;rw[w64 (x:=b-s.From) (by omega) (by omega),ytl,y0o s ⟨a1,a2⟩ h2]
theorem yzh (s:Sector):1<=ypc s/\ypc s<=360:=by unfold ypc;omega
def itR {σ : Type} (g : Nat -> σ -> σ) : Nat -> Nat -> σ -> σ
 | 0,_,s=>s
 | k+1,i,s=>itR g k (i+1) (g i s)
theorem y2e {σ : Type} (g : Nat -> σ -> σ) : ∀ (k i : Nat) (s : σ), itR g (k + 1) i s = g (i + k) (itR g k i s)
 | 0,i,s=>rfl
 | k+1,i,s=>by
  have:=y2e g k (i+1) (g i s);rw[show itR g (k+1+1) i s=itR g (k+1) (i+1) (g i s)from rfl,this,show i+1+k=i+(k+1)by omega];rfl
theorem yae {ρ σ:Type} {b:Nat->σ->Except ρ σ} (p:Nat->Bool) (g:Nat->σ->σ) (r:ρ):∀ {k i:Nat} {s:σ},(∀ j u,i<=j->j<i+k->b j u=bif p j then .error r else .ok (g j u)) ->
  ((∃ j,i<=j/\j<i+k/\p j=true)/\yf b k i s=.error r)\/((∀ j,i<=j->j<i+k->p j=false)/\yf b k i s=.ok (itR g k i s))
 | 0,i,s,_=>.inr ⟨fun j h1 h2=>by omega,rfl⟩
 | k+1,i,s,hb=>by
  simp only[yf,hb i s (Nat.le_refl _) (by omega)]
  cases hp:p i with
  | true=>exact .inl ⟨⟨i,Nat.le_refl _,by omega,hp⟩,rfl⟩
  | false=>
   simp only[cond_false];rcases yae p g r (k:=k) (i:=i+1) (s:=g i s) (fun j u h1 h2=>hb j u (by omega) (by omega))with⟨⟨j,h1,h2,h3⟩,h4⟩|⟨h1,h2⟩
   ·exact .inl ⟨⟨j,by omega,by omega,h3⟩,h4⟩
   ·refine .inr ⟨fun j h3 h4 => ?_,h2⟩
    by_cases hji:j=i
    ·subst hji;exact hp
    ·exact h1 j (by omega) (by omega)
theorem yxi {ρ:Type} {b:Int->Except (Sum ρ Int) Int} (q:Nat->Bool) (r:ρ) (n:Nat) (hb:∀ j:Nat,j<=n->b (j:Int)=bif decide (j<n)then(bif q j then .error (.inl r)else .ok ((j+1:Nat):Int))else .error (.inr (j:Int))) :
  ∀ (m i k:Nat),i+m=n->m<k->((∃ j,i<=j/\j<n/\q j=true)/\ync b k (i:Int)=.error (.inl r))\/((∀ j,i<=j->j<n->q j=false)/\ync b k (i:Int)=.error (.inr (n:Int)))
 | _,_,0,_,h=>absurd h (Nat.not_lt_zero _)
 | 0,i,k+1,e,_=>by
  have:i=n:=by omega
  subst this;right
  refine⟨fun j h1 h2=>by omega,?_⟩;simp only[ync,hb i (Nat.le_refl _),Nat.lt_irrefl,decide_false,cond_false]
 | m+1,i,k+1,e,hk=>by
  simp only[ync,hb i (by omega),show i<n by omega,decide_true,cond_true]
  cases hq:q i with
  | true=>exact .inl ⟨⟨i,Nat.le_refl _,by omega,hq⟩,rfl⟩
  | false=>
   simp only[cond_false];rcases yxi q r n hb m (i+1) k (by omega) (by omega)with⟨⟨j,h1,h2,h3⟩,h4⟩|⟨h1,h2⟩
   ·exact .inl ⟨⟨j,by omega,h2,h3⟩,h4⟩
   ·refine .inr ⟨fun j h3 h4 => ?_,h2⟩
    by_cases hji:j=i
    ·subst hji;exact hq
    ·exact h1 j (by omega) h4
theorem yzp {s:List UInt8} (h:zub s=true):(∀ b∈s,b=87\/b=82\/b=71\/b=89)/\s.length<=3:=by
 unfold zub at h;rcases ybb (b:=yoh s) (fun i=>((zwc ((s.getD i 0).toNat:Int)) == 0) || (decide (0<(i:Int)) && decide ((zwc ((s.getD i 0).toNat:Int))<=(zwc ((s.getD ((IntKind.wrap .i64 ((i:Int)-1)).toNat) 0).toNat:Int))))) (fun _=>false) (k:=s.length-0) (i:=0) (s:=()) (fun j u _ _=>rfl)with⟨j,_,_,_,_,h5⟩|⟨h1,h2⟩
 ·rw[h5]at h;cases h
 ·rw[h2]at h
  refine⟨fun b hb => ?_,by simp only[Bool.and_eq_true,decide_eq_true_eq]at h;omega⟩;obtain⟨i,hi,rfl⟩:=List.getElem_of_mem hb;have h3:=h1 i (by omega) (by omega);rw[Bool.or_eq_false_iff]at h3;have h4:=h3.1;rw[List.getD_eq_getElem?_getD,List.getElem?_eq_getElem hi]at h4;simp only[Option.getD_some]at h4;unfold zwc at h4;generalize s[i]=b at h4 ⊢;have hb9:∀ n:Nat,n<256->b.toNat=n->b=UInt8.ofNat n:=fun n hn e=>by rw[<- e];simp
  by_cases e1:b.toNat=87
  ·exact .inl (hb9 87 (by decide) e1)
  ·by_cases e2:b.toNat=82
   ·exact .inr (.inl (hb9 82 (by decide) e2))
   ·by_cases e3:b.toNat=71
    ·exact .inr (.inr (.inl (hb9 71 (by decide) e3)))
    ·by_cases e4:b.toNat=89
     ·exact .inr (.inr (.inr (hb9 89 (by decide) e4)))
     ·exfalso
      rw[show((b.toNat:Int) == 87)=false by rw[beq_eq_false_iff_ne];omega,show((b.toNat:Int) == 82)=false by rw[beq_eq_false_iff_ne];omega,show((b.toNat:Int) == 71)=false by rw[beq_eq_false_iff_ne];omega,show((b.toNat:Int) == 89)=false by rw[beq_eq_false_iff_ne];omega]at h4;simp at h4
theorem ybj {c:Character} (h:zi c=true):(∀ b∈c.Colors,b=87\/b=82\/b=71\/b=89)/\c.Colors.length<=3:=by
 refine yzp ?_;have hs:=y0c h;unfold zqc at hs
 cases hc:zub c.Colors with
 | true=>rfl
 | false=>rw[hc]at hs;simp at hs
theorem y7r {c:Character} (h:zi c=true):∀ x∈c.Colors,x.toNat<128:=fun x hx=>by
 rcases(ybj h).1 x hx with rfl|rfl|rfl|rfl<;>decide
theorem y5y (s:List UInt8) (c:UInt8) : -1<=Go.Lib.indexByte s c/\(0<=Go.Lib.indexByte s c↔c∈s):=by
 induction s with
 | nil=>simp[Go.Lib.indexByte]
 | cons b l ih=>
  obtain⟨i1,i2⟩:=ih;by_cases hb:b=c
  ·subst hb;simp[Go.Lib.indexByte]
  ·have hb2:¬ c=b:=fun h=>hb h.symm
   have e1:(b == c)=false:=by simpa using hb
   by_cases hm:c∈l
   ·have h0:=i2.2 hm
    have e2:(Go.Lib.indexByte l c == -1)=false:=by rw[beq_eq_false_iff_ne];omega
    have e3:Go.Lib.indexByte (b::l) c=Go.Lib.indexByte l c+1:=by simp only[Go.Lib.indexByte,e1,e2,Bool.false_eq_true,if_false]
    rw[e3];exact⟨by omega,fun _=>List.mem_cons_of_mem _ hm,fun _=>by omega⟩
   ·have h0:¬ 0<=Go.Lib.indexByte l c:=fun h=>hm (i2.1 h)
    have e0:Go.Lib.indexByte l c = -1:=by omega
    have e3:Go.Lib.indexByte (b::l) c = -1:=by simp only[Go.Lib.indexByte,e1,e0,Bool.false_eq_true,if_false];rfl
    rw[e3];refine⟨by omega,fun h=>by omega,fun h => ?_⟩;rcases List.mem_cons.1 h with h|h
    ·exact absurd h hb2
    ·exact absurd h hm
theorem yoj (s:List UInt8) (c:UInt8):zt s [c]=decide (c∈s):=by
 unfold zt;rw[List.getD_cons_zero];exact decide_eq_decide.2 (y5y s c).2
theorem yrt (s:List UInt8) (c:UInt8):zt (s++[c]) [c]=true:=by
 rw[yoj];simp
theorem yoz (s:List UInt8) (b c:UInt8) (h:b≠c):zt (s++[b]) [c]=zt s [c]:=by
 rw[yoj,yoj];have:¬ c=b:=fun e=>h e.symm
 simp[this]
theorem ytp (c:UInt8) (g:Sector->List UInt8->Except (List UInt8) (List UInt8)) (hg:∀ x u,g x u=bif ((x.Color == [c]) && (!(zt u [c])))then .ok (u++[c])else .ok u) :
  ∀ (l:List Sector) (u:List UInt8),zt u [c]=true->y5h g l u=.ok u
 | [],u,_=>rfl
 | x::l,u,h=>by
  rw[y2d,hg,h,Bool.not_true,Bool.and_false];exact ytp c g hg l u h
theorem ybr (c:UInt8) (g:Sector->List UInt8->Except (List UInt8) (List UInt8)) (hg:∀ x u,g x u=bif ((x.Color == [c]) && (!(zt u [c])))then .ok (u++[c])else .ok u) :
  ∀ (l:List Sector) (u:List UInt8),zt u [c]=false->y5h g l u=.ok (bif l.any (fun x=>x.Color == [c])then u++[c]else u)
 | [],u,_=>rfl
 | x::l,u,h=>by
  rw[y2d,hg,h,Bool.not_false,Bool.and_true,List.any_cons]
  cases hx:(x.Color == [c])with
  | true=>
   simp only[cond_true,Bool.true_or];exact ytp c g hg l _ (yrt u c)
  | false=>
   simp only[cond_false,Bool.false_or];exact ybr c g hg l u h
theorem ylr (c:List UInt8) (g:Sector->List UInt8->Except (Sum (List UInt8) (List UInt8)) (List UInt8)) (hg:∀ x u,g x u=bif (x.Color == c)then .error (.inr (u++c))else .ok u) :
  ∀ (l:List Sector) (u:List UInt8),y5h g l u=bif l.any (fun x=>x.Color == c)then .error (.inr (u++c))else .ok u
 | [],u=>rfl
 | x::l,u=>by
  rw[y2d,hg,List.any_cons]
  cases hx:(x.Color == c)with
  | true=>rfl
  | false=>
   simp only[cond_false,Bool.false_or];exact ylr c g hg l u
def yhh (a:List Sector) (s:List UInt8) (c:UInt8):List UInt8:=bif a.any (fun x=>x.Color == [c])then s++[c]else s
theorem yde (a:List Sector) (i:Nat) (s:List UInt8) (c:UInt8) (h4:i<4) (hc:(([87,82,71,89].take ((IntKind.wrap .i64 ((i:Int)+1)).toNat)).drop i)=[c]) (h:zt s [c]=false) :
  yri a i s=.ok (yhh a s c):=by
 unfold yri;rw[ygc (fun x u=>bif ((x.Color == [c]) && (!(zt u [c])))then .ok (u++[c])else .ok u) a s (fun j u _=>by simp only[y5l,hc])];rw[ybr c _ (fun _ _=>rfl) a s h];rfl
theorem y8d (a:List Sector) (i:Nat) (s:List UInt8) (c:UInt8) (hc:([[87],[82],[71],[89]]:List (List UInt8)).getD i default=[c]):yzi a i s=.ok (yhh a s c):=by
 unfold yzi;rw[ygc (fun x u=>bif (x.Color == [c])then .error (.inr (u++[c]))else .ok u) a s (fun j u _=>by simp only[ygl,hc])];rw[ylr [c] _ (fun _ _=>rfl) a s];unfold yhh;cases a.any (fun x=>x.Color == [c])<;>rfl
theorem y4b (a:List Sector) (s:List UInt8) (b c:UInt8) (h:b≠c):zt (yhh a s b) [c]=zt s [c]:=by
 unfold yhh
 cases a.any (fun x=>x.Color == [b])with
 | true=>exact yoz s b c h
 | false=>rfl
theorem ybg (a:List Sector):znb a=zob a:=by
 unfold znb zob;have n0:∀ c:UInt8,zt [] [c]=false:=by intro c;simp[zt,Go.Lib.indexByte]
 have l4:([87,82,71,89]:List Nat).length-0=4:=rfl;rw[l4];simp only[yf,Nat.sub_zero];rw[yde a 0 [] 87 (by omega) rfl (n0 _),y8d a 0 [] 87 rfl];simp only;rw[yde a (0+1) _ 82 (by omega) rfl (by rw[y4b _ _ _ _ (by decide)];exact n0 _),y8d a (0+1) _ 82 rfl];simp only;rw[yde a (0+1+1) _ 71 (by omega) rfl (by rw[y4b _ _ _ _ (by decide),y4b _ _ _ _ (by decide)];exact n0 _),y8d a (0+1+1) _ 71 rfl];simp only;rw[yde a (0+1+1+1) _ 89 (by omega) rfl (by rw[y4b _ _ _ _ (by decide),y4b _ _ _ _ (by decide),y4b _ _ _ _ (by decide)];exact n0 _),y8d a (0+1+1+1) _ 89 rfl]
def yag (a0:Character) (a1:Character) (a2:Int) (i1:Nat) (s1:Unit):Except (Bool) (Unit):=
 (bif ((zt a1.Colors ((a0.Colors.take ((IntKind.wrap .i64 ((i1:Int)+1)).toNat)).drop i1)) && (zpb (zq a0 ((a0.Colors.take ((IntKind.wrap .i64 ((i1:Int)+1)).toNat)).drop i1)) (zq a1 ((a0.Colors.take ((IntKind.wrap .i64 ((i1:Int)+1)).toNat)).drop i1)) a2))then .error true else .ok ())
def zjc (a0:Character) (a1:Character) (a2:Int):Bool:=
 (match yf (yag a0 a1 a2) (a0.Colors.length-0) 0 ()with|.error e=>e|.ok s1=>false)
namespace N22
theorem DD:DOk Tryz.prog (Go.Ab.DD [(52,dP D_zt),(53,dP D_zpb),(54,dP D_zq)]):=ya y9j.e <| ya ygp.e <| ya yty.e <| ye _
theorem DZ:DOk Tryz.prog (Go.Ab.DD [(52,dP D_zt),(53,dP D_zpb),(54,dP Dz_zq)]):=ya y9j.e <| ya ygp.e <| ya yyu.e <| ye _
theorem dn:type_of% (And.intro @D_zt.eq_1 <| And.intro @D_zpb.eq_1 <| And.intro @D_zq.eq_1 <| @Dz_zq.eq_1):=by and_intros<;>intros<;>rfl
theorem o0 {p:Prop} (h:p:=by(first|(with_reducible exact hasc)|((repeat' with_reducible apply And.intro)<;>first|with_reducible exact hp0|with_reducible exact hp1|with_reducible exact hp2|with_reducible exact hp3|with_reducible exact Nat.le_refl _|with_reducible exact hcl i1|with_reducible exact hc1|with_reducible exact hc2|with_reducible exact hpa|with_reducible exact hpb|omega|(rw[IntKind.wrap_i64];omega)));first|done|fail):p:=h
set_option maxHeartbeats 2000000 in
set_option maxRecDepth 20000 in
theorem den (a0:Character) (a1:Character) (a2:Int) (hp0:zi a0=true) (hp1:zi a1=true) (hp2:bdCharacter a0) (hp3:bdCharacter a1):Den Tryz.prog 22 [.agg (eCharacter a0),.agg (eCharacter a1),.int .i64 a2] (.bool (zjc a0 a1 a2)):=by
 generalize hR:zjc a0 a1 a2=r;unfold zjc at hR;refine di Tryz.func22 Tryz.ntmps22 Tryz.results22 ?_;intro c hL hc hk;obtain⟨hL0,hL1,hL2,_⟩:=hL;have hw0:bwCharacter a0:=yj a0 hL0;have hw1:bwCharacter a1:=yj a1 hL1;clear hL0 hL1 hL2;simp only[pars,Nat.zero_add];have hcl:=fun(i:Nat)=>y8s (l:=a0.Colors) hp2.2.2 i
 have hsa:=fun(col:List UInt8) (h:col.length<=1)=>y9i (col:=col) hp0 hp2 h
 have hsb:=fun(col:List UInt8) (h:col.length<=1)=>y9i (col:=col) hp1 hp3 h
 have hasc:=y7r hp0;iterate 2 refine rS ?_
 refine AWP.block ?_;refine AWP.lensT 10 rfl (fun hLn1 => ?_);generalize hz1:yf (yag a0 a1 a2) (a0.Colors.length-0) 0 ()=z1 at hR;refine AWP.range (yag a0 a1 a2) (fun i1 s1=>⟨[(2,.int .i64 a2),(3,.ptr 0 0),(4,.ptr 1 0),(11,.ptr 2 0)],[.box [.int .i64 a0.Kind,encL 1 yq a0.Group,.str a0.Letter,.str a0.Colors,.int .i64 a0.Period],.box [.int .i64 a1.Kind,encL 1 yq a1.Group,.str a1.Letter,.str a1.Colors,.int .i64 a1.Period],.it a0.Colors i1 (decide (i1<a0.Colors.length))]⟩) (fun i1 s1=>True) (a0.Colors.length) 0 () [0,1,2] hz1 ot wt sm ?_;clear hz1;intro i1 s1 hi1 hW1 hz1;refine AWP.seq ?_;by_cases hlt1:i1<a0.Colors.length
 ·rw[yg hlt1]at hz1;simp only[yag]at hz1
  rw[decide_eq_true hlt1];refine rS ?_;refine AWP.seq ?_;refine AWP.cond rfl (fun hb => ?_) (fun hb=>nomatch hb);iterate 2 refine rS ?_
  have hc1:=hcl i1;have hc2:((a0.Colors.take ((IntKind.wrap .i64 ((i1:Int)+1)).toNat)).drop i1).length=1:=by rw[List.length_drop,List.length_take,show(IntKind.wrap .i64 ((i1:Int)+1)).toNat=i1+1 by rw[IntKind.wrap_i64];omega];omega
  generalize ((a0.Colors.take ((IntKind.wrap .i64 ((i1:Int)+1)).toNat)).drop i1)=col at hz1 hc1 hc2 ⊢;have hpa:=hsa _ hc1;have hpb:=hsb _ hc1;clear hcl hsa hsb;refine rZ 12 ?_;refine AWP.cond rfl (fun hb => ?_) (fun hb => ?_)
  ·simp only[hb,cond_true]at hz1
   refine rS ?_;refine AWP.ret ?_;subst hz1;dsimp only at hR;subst hR;exact es
  ·simp only[hb,cond_false]at hz1
   refine AWP.skip ?_;exact⟨_,[0,1,2],hlt1,wt,hz1,sm⟩
 ·obtain rfl:i1=a0.Colors.length:=by omega
  rw[yh (Nat.le_refl _)]at hz1;subst hz1;dsimp only at hR;simp only[Nat.lt_irrefl,decide_false];refine rS ?_;refine AWP.seq ?_;refine AWP.cond rfl (fun hb=>nomatch hb) (fun hb => ?_);refine AWP.exit ?_;refine yc ?_;refine rS ?_;refine AWP.ret ?_;subst hR;exact es
end N22
def D_zjc : DF
 | [x0,x1,x2]=>some (.bool (zjc (rdG yb x0) (rdG yb x1) (rdI x2)),false,[wG eCharacter yb x0,wG eCharacter yb x1,wI .i64 x2,zi (rdG yb x0)=true,zi (rdG yb x1)=true,bdCharacter (rdG yb x0),bdCharacter (rdG yb x1)])
 | _=>none
theorem ypw:OkD Tryz.prog 22 D_zjc:=by unfold D_zjc;exact dk N22.den
def y4h (a0:Character) (a1:Character) (a2:Int) (i1:Nat) (s1:Unit):Except (Bool) (Unit):=
 (bif (zdd a1.Colors ((a0.Colors.take ((IntKind.wrap .i64 ((i1:Int)+1)).toNat)).drop i1))then .error (zw (zf a0 ((a0.Colors.take ((IntKind.wrap .i64 ((i1:Int)+1)).toNat)).drop i1)) (zf a1 ((a0.Colors.take ((IntKind.wrap .i64 ((i1:Int)+1)).toNat)).drop i1)) a2)else .ok ())
def ztc (a0:Character) (a1:Character) (a2:Int):Bool:=
 (match yf (y4h a0 a1 a2) (a0.Colors.length-0) 0 ()with|.error e=>e|.ok s1=>false)
namespace N38
theorem DD:DOk Tryz.prog (Go.Ab.DD [(65,dP D_zdd),(66,dP D_zw),(67,dP D_zf)]):=ya yku.e <| ya y0x.e <| ya ywx.e <| ye _
theorem dn:type_of% (And.intro @D_zdd.eq_1 <| And.intro @D_zw.eq_1 <| @D_zf.eq_1):=by and_intros<;>intros<;>rfl
theorem o0 {p:Prop} (h:p:=by(first|((repeat' with_reducible apply And.intro)<;>first|with_reducible exact hp0|with_reducible exact hp1|with_reducible exact hp2|with_reducible exact hp3|with_reducible exact Nat.le_refl _|with_reducible exact hcl i1|with_reducible exact hsa _ (hcl i1)|with_reducible exact hsb _ (hcl i1)|omega|(rw[IntKind.wrap_i64];omega)));first|done|fail):p:=h
set_option maxHeartbeats 2000000 in
set_option maxRecDepth 20000 in
theorem den (a0:Character) (a1:Character) (a2:Int) (hp0:zi a0=true) (hp1:zi a1=true) (hp2:bdCharacter a0) (hp3:bdCharacter a1):Den Tryz.prog 38 [.ep (eCharacter a0),.ep (eCharacter a1),.int .i64 a2] (.bool (ztc a0 a1 a2)):=by
 generalize hR:ztc a0 a1 a2=r;unfold ztc at hR;refine di Tryz.func38 Tryz.ntmps38 Tryz.results38 ?_;intro c hL hc hk;obtain⟨hL0,hL1,hL2,_⟩:=hL;have hw0:bwCharacter a0:=yj a0 hL0;have hw1:bwCharacter a1:=yj a1 hL1;clear hL0 hL1 hL2;simp only[pars,Nat.zero_add];have hcl:=fun(i:Nat)=>y8s (l:=a0.Colors) hp2.2.2 i
 have hsa:=fun(col:List UInt8) (h:col.length<=1)=>yzc (col:=col) hp0 h
 have hsb:=fun(col:List UInt8) (h:col.length<=1)=>yzc (col:=col) hp1 h
 iterate 2 refine rS ?_
 refine AWP.block ?_;generalize hz1:yf (y4h a0 a1 a2) (a0.Colors.length-0) 0 ()=z1 at hR;refine AWP.range (y4h a0 a1 a2) (fun i1 s1=>⟨[(0,.ep (eCharacter a0)),(1,.ep (eCharacter a1)),(2,.int .i64 a2),(7,.int .i64 (i1:Int))],[]⟩) (fun i1 s1=>True) (a0.Colors.length) 0 () [] hz1 ot wt sm ?_;clear hz1;intro i1 s1 hi1 hW1 hz1;refine rS ?_;refine AWP.cond rfl (fun hb => ?_) (fun hb => ?_)
 ·have hlt1:i1<a0.Colors.length:=ot
  rw[yg hlt1]at hz1;simp only[y4h]at hz1;iterate 2 refine rS ?_
  refine AWP.cond rfl (fun hb => ?_) (fun hb => ?_)
  ·simp only[hb,cond_true]at hz1
   refine rS ?_;refine AWP.ret ?_;subst hz1;dsimp only at hR;subst hR;exact es
  ·simp only[hb,cond_false]at hz1
   refine rS ?_;exact⟨_,[],hlt1,wt,hz1,sm⟩
 ·obtain rfl:i1=a0.Colors.length:=ot
  rw[yh (Nat.le_refl _)]at hz1;subst hz1;dsimp only at hR;refine AWP.exit ?_;refine yc ?_;refine rS ?_;refine AWP.ret ?_;subst hR;exact es
end N38
def D_ztc : DF
 | [x0,x1,x2]=>some (.bool (ztc (rdP yb x0) (rdP yb x1) (rdI x2)),false,[wP eCharacter yb x0,wP eCharacter yb x1,wI .i64 x2,zi (rdP yb x0)=true,zi (rdP yb x1)=true,bdCharacter (rdP yb x0),bdCharacter (rdP yb x1)])
 | _=>none
theorem ylv:OkD Tryz.prog 38 D_ztc:=by unfold D_ztc;exact dk N38.den
theorem yip {l:List UInt8} (hl:l.length<1099511627776) {i:Nat} (hi:i<l.length):((l.take (IntKind.wrap .i64 ((i:Int)+1)).toNat).drop i)=[l.getD i 0]:=by
 rw[show(IntKind.wrap .i64 ((i:Int)+1)).toNat=i+1 by rw[IntKind.wrap_i64];omega,List.drop_take,show i+1-i=1 by omega,List.getD_eq_getElem?_getD,List.getElem?_eq_getElem hi,Option.getD_some,List.drop_eq_getElem_cons hi];rfl
theorem y2q {s:List UInt8} (hl:s.length<1099511627776) (c:UInt8):zdd s [c]=decide (c∈s):=by
 unfold zdd;rcases ybb (b:=ylm s [c]) (fun i=>(((s.take ((IntKind.wrap .i64 ((i:Int)+1)).toNat)).drop i) == [c])) (fun _=>true) (k:=s.length-0) (i:=0) (s:=()) (fun j u _ _=>rfl)with⟨j,_,h2,h3,_,h5⟩|⟨h1,h2⟩
 ·rw[h5]
  rw[yip hl (by omega:j<s.length)]at h3;have h4:=List.cons.inj (eq_of_beq h3);refine(decide_eq_true ?_).symm;rw[<- h4.1,List.getD_eq_getElem?_getD,List.getElem?_eq_getElem (by omega:j<s.length),Option.getD_some];exact List.getElem_mem _
 ·rw[h2]
  refine(decide_eq_false fun hc => ?_).symm;obtain⟨i,hi,rfl⟩:=List.getElem_of_mem hc;have h3:=h1 i (by omega) (by omega);rw[yip hl hi,List.getD_eq_getElem?_getD,List.getElem?_eq_getElem hi,Option.getD_some]at h3;simp at h3
theorem y9m {a b:Character} {w:Int} (ha:zi a=true) (hb:zi b=true) (ba:bdCharacter a) (bb:bdCharacter b) (hw:0<=w/\w<=20):zjc a b w=ztc a b w:=by
 obtain⟨P,hP⟩:=yww ha hb hw;have hla:a.Colors.length<1099511627776:=ba.2.2;have hlb:b.Colors.length<1099511627776:=bb.2.2
 have hnz:∀ i,i<a.Colors.length->(a.Colors.getD i 0).toNat≠0:=fun i hi=>by
  have hm:a.Colors.getD i 0∈a.Colors:=by
   rw[List.getD_eq_getElem?_getD,List.getElem?_eq_getElem hi,Option.getD_some];exact List.getElem_mem _
  rcases(ybj ha).1 _ hm with h|h|h|h<;>rw[h]<;>decide
 have hI:∀ i,i<a.Colors.length->yag a b w i ()=bif (decide (a.Colors.getD i 0∈b.Colors) && zpb (zf a [a.Colors.getD i 0]) (zf b [a.Colors.getD i 0]) w)then .error true else .ok ():=fun i hi=>by
  unfold yag;rw[yip hla hi,yoj,y4l ha ba,y4l hb bb]
 have hS:∀ i,i<a.Colors.length->y4h a b w i ()=bif decide (a.Colors.getD i 0∈b.Colors)then .error (zw (zf a [a.Colors.getD i 0]) (zf b [a.Colors.getD i 0]) w)else .ok ():=fun i hi=>by
  unfold y4h;rw[yip hla hi,y2q hlb]
 unfold zjc ztc;rcases ybb (b:=y4h a b w) (fun i=>decide (a.Colors.getD i 0∈b.Colors)) (fun i=>zw (zf a [a.Colors.getD i 0]) (zf b [a.Colors.getD i 0]) w) (k:=a.Colors.length-0) (i:=0) (s:=()) (fun j u _ h=>hS j (by omega))with⟨j,_,h2,h3,h4,h5⟩|⟨h1,h2⟩
 ·rw[h5]
  have hj:=hP _ (hnz j (by omega));rcases ybb (b:=yag a b w) (fun i=>(decide (a.Colors.getD i 0∈b.Colors) && zpb (zf a [a.Colors.getD i 0]) (zf b [a.Colors.getD i 0]) w)) (fun _=>true) (k:=a.Colors.length-0) (i:=0) (s:=()) (fun j u _ h=>hI j (by omega))with⟨q,_,g2,g3,_,g5⟩|⟨g1,g2⟩
  ·rw[g5]
   rw[Bool.and_eq_true]at g3;exact(hj.1.2 ((hP _ (hnz q (by omega))).2.1 g3.2)).symm
  ·rw[g2]
   have g3:=g1 j (by omega) (by omega);rw[h3,Bool.true_and]at g3
   cases hc:zw (zf a [a.Colors.getD j 0]) (zf b [a.Colors.getD j 0]) w with
   | false=>rfl
   | true=>
    rw[hj.2.2 (hj.1.1 hc)]at g3;cases g3
 ·rw[h2]
  rcases ybb (b:=yag a b w) (fun i=>(decide (a.Colors.getD i 0∈b.Colors) && zpb (zf a [a.Colors.getD i 0]) (zf b [a.Colors.getD i 0]) w)) (fun _=>true) (k:=a.Colors.length-0) (i:=0) (s:=()) (fun j u _ h=>hI j (by omega))with⟨q,_,g2,g3,_,g5⟩|⟨g1,g2⟩
  ·rw[h1 q (by omega) (by omega),Bool.false_and]at g3
   cases g3
  ·rw[g2]
end Go.Ab
