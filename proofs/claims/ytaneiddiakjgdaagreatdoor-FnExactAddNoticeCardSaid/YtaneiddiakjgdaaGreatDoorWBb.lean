/- A part of a proof: walks of functions and lemmas of our own. No conditions. -/
import Derived.Test.YtaneiddiakjgdaaGreatDoorWBa
import Derived.Test.YtaneiddiakjgdaaGreatDoorWAz
import Derived.Test.YtaneiddiakjgdaaGreatDoorWAp
import Derived.Test.YtaneiddiakjgdaaGreatDoorWAl
import Derived.Test.YtaneiddiakjgdaaGreatDoorWAn
import Derived.Test.YtaneiddiakjgdaaGreatDoorWAi
set_option linter.unusedSectionVars false
set_option linter.unusedVariables false
set_option linter.unusedSimpArgs false
set_option maxHeartbeats 1000000
namespace Go.Ab
open Go Go.Proofs
def y1c (x:Aid) (k:Int):Int×Aid:=
 (IntKind.wrap .i64 (((zg (x.Sectors) (IntKind.wrap .i64 ((IntKind.wrap .i64 ((IntKind.wrap .i64 (((za ((x.Light).Group) (IntKind.wrap .i64 ((IntKind.wrap .i64 ((IntKind.wrap .i64 ((IntKind.wrap .i64 ((IntKind.wrap .i64 ((IntKind.wrap .i64 ((IntKind.wrap .i64 ((IntKind.wrap .i64 ((IntKind.wrap .i64 ((IntKind.wrap .i64 (k+1))+1))+1))+1))+1))+1))+1))+1))+1))+1))).1)+1))+1))+1))).1)+1),{ Number:=k,Name:=(ze (IntKind.wrap .i64 (k+1))),At:={ X:=IntKind.wrap .i64 ((IntKind.wrap .i64 (k+1))+1),Y:=IntKind.wrap .i64 ((IntKind.wrap .i64 ((IntKind.wrap .i64 (k+1))+1))+1):Point },Height:=IntKind.wrap .i64 ((IntKind.wrap .i64 ((IntKind.wrap .i64 ((IntKind.wrap .i64 (k+1))+1))+1))+1),Mark:={ Kind:=IntKind.wrap .i64 ((IntKind.wrap .i64 ((IntKind.wrap .i64 ((IntKind.wrap .i64 ((IntKind.wrap .i64 (k+1))+1))+1))+1))+1),Colors:=(ze (IntKind.wrap .i64 ((IntKind.wrap .i64 ((IntKind.wrap .i64 ((IntKind.wrap .i64 ((IntKind.wrap .i64 ((IntKind.wrap .i64 (k+1))+1))+1))+1))+1))+1))),Shape:=(ze (IntKind.wrap .i64 ((IntKind.wrap .i64 ((IntKind.wrap .i64 ((IntKind.wrap .i64 ((IntKind.wrap .i64 ((IntKind.wrap .i64 ((IntKind.wrap .i64 (k+1))+1))+1))+1))+1))+1))+1))),Topmark:=(ze (IntKind.wrap .i64 ((IntKind.wrap .i64 ((IntKind.wrap .i64 ((IntKind.wrap .i64 ((IntKind.wrap .i64 ((IntKind.wrap .i64 ((IntKind.wrap .i64 ((IntKind.wrap .i64 (k+1))+1))+1))+1))+1))+1))+1))+1))):Mark },Light:={ Kind:=IntKind.wrap .i64 ((IntKind.wrap .i64 ((IntKind.wrap .i64 ((IntKind.wrap .i64 ((IntKind.wrap .i64 ((IntKind.wrap .i64 ((IntKind.wrap .i64 ((IntKind.wrap .i64 ((IntKind.wrap .i64 (k+1))+1))+1))+1))+1))+1))+1))+1))+1),Group:=(za ((x.Light).Group) (IntKind.wrap .i64 ((IntKind.wrap .i64 ((IntKind.wrap .i64 ((IntKind.wrap .i64 ((IntKind.wrap .i64 ((IntKind.wrap .i64 ((IntKind.wrap .i64 ((IntKind.wrap .i64 ((IntKind.wrap .i64 ((IntKind.wrap .i64 (k+1))+1))+1))+1))+1))+1))+1))+1))+1))+1))).2,Letter:=(ze ((za ((x.Light).Group) (IntKind.wrap .i64 ((IntKind.wrap .i64 ((IntKind.wrap .i64 ((IntKind.wrap .i64 ((IntKind.wrap .i64 ((IntKind.wrap .i64 ((IntKind.wrap .i64 ((IntKind.wrap .i64 ((IntKind.wrap .i64 ((IntKind.wrap .i64 (k+1))+1))+1))+1))+1))+1))+1))+1))+1))+1))).1)),Colors:=(ze (IntKind.wrap .i64 (((za ((x.Light).Group) (IntKind.wrap .i64 ((IntKind.wrap .i64 ((IntKind.wrap .i64 ((IntKind.wrap .i64 ((IntKind.wrap .i64 ((IntKind.wrap .i64 ((IntKind.wrap .i64 ((IntKind.wrap .i64 ((IntKind.wrap .i64 ((IntKind.wrap .i64 (k+1))+1))+1))+1))+1))+1))+1))+1))+1))+1))).1)+1))),Period:=IntKind.wrap .i64 ((IntKind.wrap .i64 (((za ((x.Light).Group) (IntKind.wrap .i64 ((IntKind.wrap .i64 ((IntKind.wrap .i64 ((IntKind.wrap .i64 ((IntKind.wrap .i64 ((IntKind.wrap .i64 ((IntKind.wrap .i64 ((IntKind.wrap .i64 ((IntKind.wrap .i64 ((IntKind.wrap .i64 (k+1))+1))+1))+1))+1))+1))+1))+1))+1))+1))).1)+1))+1):Character },Sectors:=(zg (x.Sectors) (IntKind.wrap .i64 ((IntKind.wrap .i64 ((IntKind.wrap .i64 (((za ((x.Light).Group) (IntKind.wrap .i64 ((IntKind.wrap .i64 ((IntKind.wrap .i64 ((IntKind.wrap .i64 ((IntKind.wrap .i64 ((IntKind.wrap .i64 ((IntKind.wrap .i64 ((IntKind.wrap .i64 ((IntKind.wrap .i64 ((IntKind.wrap .i64 (k+1))+1))+1))+1))+1))+1))+1))+1))+1))+1))).1)+1))+1))+1))).2,Intensity:=((zg (x.Sectors) (IntKind.wrap .i64 ((IntKind.wrap .i64 ((IntKind.wrap .i64 (((za ((x.Light).Group) (IntKind.wrap .i64 ((IntKind.wrap .i64 ((IntKind.wrap .i64 ((IntKind.wrap .i64 ((IntKind.wrap .i64 ((IntKind.wrap .i64 ((IntKind.wrap .i64 ((IntKind.wrap .i64 ((IntKind.wrap .i64 ((IntKind.wrap .i64 (k+1))+1))+1))+1))+1))+1))+1))+1))+1))+1))).1)+1))+1))+1))).1):Aid })
theorem yzl (a:List Aid) (k:Int):zlb a k=ywc y1c a k:=by
 unfold zlb
 have:=yqf y1c (ynk a k) (fun i s=>rfl) a [] k
 simp only[List.length_nil,List.nil_append,Nat.sub_zero]at this ⊢
 rw[this]
def aidB (x:Aid):Prop:=x.Light.Group.length≤1048576∧x.Sectors.length≤1048576
theorem y7w (x:Aid) (k:Int) (hx:aidB x) (h0:0≤k) (h1:k≤281474976710656):(y1c x k).1=k+14+x.Light.Group.length+3 * x.Sectors.length:=by
 obtain⟨b1,b2⟩:=hx
 unfold y1c
 simp(disch:=omega) only[wr1]
 have g1:k+1+1+1+1+1+1+1+1+1+1=k+10:=by omega
 rw[g1,za_k _ _ (by omega) (by omega) (by omega)]
 simp(disch:=omega) only[wr1]
 rw[ync _ _ (by omega) (by omega) (by omega)]
 simp(disch:=omega) only[wr1]
 omega
theorem yxn (L:List Aid) (a1:Int) (j:Nat) (x:Aid) (s:Int) (hx:aidB x) (h0:0≤s) (h1:s≤281474976710656) (e:L.getD j default=(y1c x s).2):ytk L a1 j s=.ok (y1c x s).1:=by
 obtain⟨b1,b2⟩:=hx
 simp only[ytk,e]
 simp only[y1c]
 simp(disch:=omega) only[wr1]
 have g1:s+1+1+1+1+1+1+1+1+1+1=s+10:=by omega
 simp only[g1]
 have e1:=yrw x.Light.Group (s+10) (by omega) (by omega) (by omega)
 have e2:=za_k x.Light.Group (s+10) (by omega) (by omega) (by omega)
 simp only[e1.1,e2]
 simp(disch:=omega) only[wr1]
 have e3:=y5e x.Sectors (s+10+1 * (x.Light.Group.length:Int)+1+1+1) (by omega) (by omega) (by omega)
 have e4:=ync x.Sectors (s+10+1 * (x.Light.Group.length:Int)+1+1+1) (by omega) (by omega) (by omega)
 simp only[e3.1,e4]
 simp(disch:=omega) only[wr1]
 rw[decide_eq_false (show ¬ s+10+1 * (x.Light.Group.length:Int)<0 by omega),decide_eq_false (show ¬ s+10+1 * (x.Light.Group.length:Int)+1+1+1+3 * (x.Sectors.length:Int)<0 by omega)]
 simp only[bne_self_eq_false,cond_false]
theorem yvj (x:Aid) (k:Int) (hx:aidB x) (h0:0≤k) (h1:k≤281474976710656):k≤(y1c x k).1∧(y1c x k).1≤k+4194400:=by
 rw[y7w x k hx h0 h1]
 obtain⟨b1,b2⟩:=hx
 omega
theorem yci (a:List Aid) (k:Int) (ha:∀ x∈a,aidB x) (hl:a.length≤1048576) (h0:0≤k) (h1:k≤140737488355328):k≤(zlb a k).1∧(zlb a k).1≤k+4194400 * a.length:=by
 rw[yzl]
 exact ylm y1c aidB 4194400 281474976710656 (by omega) yvj a k ha h0 (by omega)
theorem ynn (a:List Aid) (k:Int) (ha:∀ x∈a,aidB x) (hl:a.length≤1048576) (h0:0≤k) (h1:k≤140737488355328):zwc (zlb a k).2 k=(zlb a k).1∧¬ (zlb a k).1<0:=by
 refine⟨?_,by have:=yci a k ha hl h0 h1;omega⟩
 rw[yzl]
 unfold zwc
 rw[yyg,Nat.sub_zero]
 rw[y3f y1c (ytk (ywc y1c a k).2 k) aidB 4194400 281474976710656 (by omega) yvj a 0 k ha h0 (by omega) (fun j x s hx g0 g1 g2=>by
  have e:(ywc y1c a k).2.getD (0+j) default=(y1c x s).2:=by rw[Nat.zero_add,List.getD_eq_getElem?_getD,g2];rfl
  exact yxn _ _ _ x s hx g0 g1 e)]
end Go.Ab

namespace Go.Ab
open Go Go.Proofs
def aidP (v:Aid):Prop:=aidL v∧aidB v
theorem y6m {v:Aid} (h:bwAid v) (h2:ybr v):aidP v:=⟨⟨h.2.2.1.2.2,by have:=h2.2.2.2.1;omega⟩,⟨h2.2.2.1.1,h2.2.2.2.1⟩⟩
theorem ys4 (v:Aid) (h:aidP v):aidL v:=h.1
end Go.Ab

namespace Go.Ab
open Go Go.Proofs
def ygk (a0:(List Notice)) (a1:Int) (i1:Nat) (s1:Int×List Notice):Except (Int×(List Notice)) (Int×List Notice):=
 .ok (IntKind.wrap .i64 (((zg (((s1.2.getD i1 default).Aid).Sectors) (IntKind.wrap .i64 ((IntKind.wrap .i64 ((IntKind.wrap .i64 (((za ((((s1.2.getD i1 default).Aid).Light).Group) (IntKind.wrap .i64 ((IntKind.wrap .i64 ((IntKind.wrap .i64 ((IntKind.wrap .i64 ((IntKind.wrap .i64 ((IntKind.wrap .i64 ((IntKind.wrap .i64 ((IntKind.wrap .i64 ((IntKind.wrap .i64 ((IntKind.wrap .i64 ((IntKind.wrap .i64 ((IntKind.wrap .i64 ((IntKind.wrap .i64 ((IntKind.wrap .i64 (s1.1+1))+1))+1))+1))+1))+1))+1))+1))+1))+1))+1))+1))+1))+1))).1)+1))+1))+1))).1)+1),s1.2.set i1 ({ Number:=s1.1,Day:=IntKind.wrap .i64 (s1.1+1),Kind:=IntKind.wrap .i64 ((IntKind.wrap .i64 (s1.1+1))+1),Target:=IntKind.wrap .i64 ((IntKind.wrap .i64 ((IntKind.wrap .i64 (s1.1+1))+1))+1),Aid:={ Number:=IntKind.wrap .i64 ((IntKind.wrap .i64 ((IntKind.wrap .i64 ((IntKind.wrap .i64 (s1.1+1))+1))+1))+1),Name:=(ze (IntKind.wrap .i64 ((IntKind.wrap .i64 ((IntKind.wrap .i64 ((IntKind.wrap .i64 ((IntKind.wrap .i64 (s1.1+1))+1))+1))+1))+1))),At:={ X:=IntKind.wrap .i64 ((IntKind.wrap .i64 ((IntKind.wrap .i64 ((IntKind.wrap .i64 ((IntKind.wrap .i64 ((IntKind.wrap .i64 (s1.1+1))+1))+1))+1))+1))+1),Y:=IntKind.wrap .i64 ((IntKind.wrap .i64 ((IntKind.wrap .i64 ((IntKind.wrap .i64 ((IntKind.wrap .i64 ((IntKind.wrap .i64 ((IntKind.wrap .i64 (s1.1+1))+1))+1))+1))+1))+1))+1):Point },Height:=IntKind.wrap .i64 ((IntKind.wrap .i64 ((IntKind.wrap .i64 ((IntKind.wrap .i64 ((IntKind.wrap .i64 ((IntKind.wrap .i64 ((IntKind.wrap .i64 ((IntKind.wrap .i64 (s1.1+1))+1))+1))+1))+1))+1))+1))+1),Mark:={ Kind:=IntKind.wrap .i64 ((IntKind.wrap .i64 ((IntKind.wrap .i64 ((IntKind.wrap .i64 ((IntKind.wrap .i64 ((IntKind.wrap .i64 ((IntKind.wrap .i64 ((IntKind.wrap .i64 ((IntKind.wrap .i64 (s1.1+1))+1))+1))+1))+1))+1))+1))+1))+1),Colors:=(ze (IntKind.wrap .i64 ((IntKind.wrap .i64 ((IntKind.wrap .i64 ((IntKind.wrap .i64 ((IntKind.wrap .i64 ((IntKind.wrap .i64 ((IntKind.wrap .i64 ((IntKind.wrap .i64 ((IntKind.wrap .i64 ((IntKind.wrap .i64 (s1.1+1))+1))+1))+1))+1))+1))+1))+1))+1))+1))),Shape:=(ze (IntKind.wrap .i64 ((IntKind.wrap .i64 ((IntKind.wrap .i64 ((IntKind.wrap .i64 ((IntKind.wrap .i64 ((IntKind.wrap .i64 ((IntKind.wrap .i64 ((IntKind.wrap .i64 ((IntKind.wrap .i64 ((IntKind.wrap .i64 ((IntKind.wrap .i64 (s1.1+1))+1))+1))+1))+1))+1))+1))+1))+1))+1))+1))),Topmark:=(ze (IntKind.wrap .i64 ((IntKind.wrap .i64 ((IntKind.wrap .i64 ((IntKind.wrap .i64 ((IntKind.wrap .i64 ((IntKind.wrap .i64 ((IntKind.wrap .i64 ((IntKind.wrap .i64 ((IntKind.wrap .i64 ((IntKind.wrap .i64 ((IntKind.wrap .i64 ((IntKind.wrap .i64 (s1.1+1))+1))+1))+1))+1))+1))+1))+1))+1))+1))+1))+1))):Mark },Light:={ Kind:=IntKind.wrap .i64 ((IntKind.wrap .i64 ((IntKind.wrap .i64 ((IntKind.wrap .i64 ((IntKind.wrap .i64 ((IntKind.wrap .i64 ((IntKind.wrap .i64 ((IntKind.wrap .i64 ((IntKind.wrap .i64 ((IntKind.wrap .i64 ((IntKind.wrap .i64 ((IntKind.wrap .i64 ((IntKind.wrap .i64 (s1.1+1))+1))+1))+1))+1))+1))+1))+1))+1))+1))+1))+1))+1),Group:=(za ((((s1.2.getD i1 default).Aid).Light).Group) (IntKind.wrap .i64 ((IntKind.wrap .i64 ((IntKind.wrap .i64 ((IntKind.wrap .i64 ((IntKind.wrap .i64 ((IntKind.wrap .i64 ((IntKind.wrap .i64 ((IntKind.wrap .i64 ((IntKind.wrap .i64 ((IntKind.wrap .i64 ((IntKind.wrap .i64 ((IntKind.wrap .i64 ((IntKind.wrap .i64 ((IntKind.wrap .i64 (s1.1+1))+1))+1))+1))+1))+1))+1))+1))+1))+1))+1))+1))+1))+1))).2,Letter:=(ze ((za ((((s1.2.getD i1 default).Aid).Light).Group) (IntKind.wrap .i64 ((IntKind.wrap .i64 ((IntKind.wrap .i64 ((IntKind.wrap .i64 ((IntKind.wrap .i64 ((IntKind.wrap .i64 ((IntKind.wrap .i64 ((IntKind.wrap .i64 ((IntKind.wrap .i64 ((IntKind.wrap .i64 ((IntKind.wrap .i64 ((IntKind.wrap .i64 ((IntKind.wrap .i64 ((IntKind.wrap .i64 (s1.1+1))+1))+1))+1))+1))+1))+1))+1))+1))+1))+1))+1))+1))+1))).1)),Colors:=(ze (IntKind.wrap .i64 (((za ((((s1.2.getD i1 default).Aid).Light).Group) (IntKind.wrap .i64 ((IntKind.wrap .i64 ((IntKind.wrap .i64 ((IntKind.wrap .i64 ((IntKind.wrap .i64 ((IntKind.wrap .i64 ((IntKind.wrap .i64 ((IntKind.wrap .i64 ((IntKind.wrap .i64 ((IntKind.wrap .i64 ((IntKind.wrap .i64 ((IntKind.wrap .i64 ((IntKind.wrap .i64 ((IntKind.wrap .i64 (s1.1+1))+1))+1))+1))+1))+1))+1))+1))+1))+1))+1))+1))+1))+1))).1)+1))),Period:=IntKind.wrap .i64 ((IntKind.wrap .i64 (((za ((((s1.2.getD i1 default).Aid).Light).Group) (IntKind.wrap .i64 ((IntKind.wrap .i64 ((IntKind.wrap .i64 ((IntKind.wrap .i64 ((IntKind.wrap .i64 ((IntKind.wrap .i64 ((IntKind.wrap .i64 ((IntKind.wrap .i64 ((IntKind.wrap .i64 ((IntKind.wrap .i64 ((IntKind.wrap .i64 ((IntKind.wrap .i64 ((IntKind.wrap .i64 ((IntKind.wrap .i64 (s1.1+1))+1))+1))+1))+1))+1))+1))+1))+1))+1))+1))+1))+1))+1))).1)+1))+1):Character },Sectors:=(zg (((s1.2.getD i1 default).Aid).Sectors) (IntKind.wrap .i64 ((IntKind.wrap .i64 ((IntKind.wrap .i64 (((za ((((s1.2.getD i1 default).Aid).Light).Group) (IntKind.wrap .i64 ((IntKind.wrap .i64 ((IntKind.wrap .i64 ((IntKind.wrap .i64 ((IntKind.wrap .i64 ((IntKind.wrap .i64 ((IntKind.wrap .i64 ((IntKind.wrap .i64 ((IntKind.wrap .i64 ((IntKind.wrap .i64 ((IntKind.wrap .i64 ((IntKind.wrap .i64 ((IntKind.wrap .i64 ((IntKind.wrap .i64 (s1.1+1))+1))+1))+1))+1))+1))+1))+1))+1))+1))+1))+1))+1))+1))).1)+1))+1))+1))).2,Intensity:=((zg (((s1.2.getD i1 default).Aid).Sectors) (IntKind.wrap .i64 ((IntKind.wrap .i64 ((IntKind.wrap .i64 (((za ((((s1.2.getD i1 default).Aid).Light).Group) (IntKind.wrap .i64 ((IntKind.wrap .i64 ((IntKind.wrap .i64 ((IntKind.wrap .i64 ((IntKind.wrap .i64 ((IntKind.wrap .i64 ((IntKind.wrap .i64 ((IntKind.wrap .i64 ((IntKind.wrap .i64 ((IntKind.wrap .i64 ((IntKind.wrap .i64 ((IntKind.wrap .i64 ((IntKind.wrap .i64 ((IntKind.wrap .i64 (s1.1+1))+1))+1))+1))+1))+1))+1))+1))+1))+1))+1))+1))+1))+1))).1)+1))+1))+1))).1):Aid }:Notice }))
def zdb (a0:(List Notice)) (a1:Int):Int×(List Notice):=
 (match yh (ygk a0 a1) (a0.length-0) 0 (a1,a0)with|.error e=>e|.ok s1=>(s1.1,s1.2))
namespace N19
theorem DD:DOk Tryz.prog (Go.Ab.DD [(20,dM [true,false] D_za),(75,dP D_ze),(76,dM [true,false] D_zg)]):=ya yfq.e <| ya y4h.e <| ya y5q.e <| ye _
theorem dn:type_of% (And.intro @D_za.eq_1 <| And.intro @D_ze.eq_1 <| And.intro @D_zg.eq_1 <| And.intro @ydg <| @yfb):=And.intro @D_za.eq_1 <| And.intro @D_ze.eq_1 <| And.intro @D_zg.eq_1 <| And.intro @ydg <| @yfb
theorem ol:type_of% (And.intro @ycd <| @y9):=And.intro @ycd <| @y9
theorem gr {p:Prop} (h:p:=by(grind [ycd,yhb]);first|done|fail):p:=h
theorem o1 {p:Prop} (h:p:=by(first|(exact mrg)|(first|exact y0c _ _ (by exact mrg)|exact yhb _ _ (by exact mrg)|exact y0c _ _ (y7c _)|exact yhb _ _ (y7c _)));first|done|fail):p:=h
theorem o2 {p:Prop} (h:p:=by(first|(and_intros<;>first|rfl|decide|(rw[IntKind.wrap_i64];omega)|(simp only[List.length_set];(first|done|fail))|(intro j hj;by_cases hji:j=i1;(focus(subst hji;simp only[y3r hj,Nat.beq_refl,beq_self_eq_true,cond_true,ol];first|(first|done|fail)|rfl|(and_intros<;>rfl)));(simp only[yao hji,beqF hji,cond_false];first|(first|done|fail)|rfl|(and_intros<;>rfl)))));first|done|fail):p:=h
set_option maxHeartbeats 4000000 in
set_option maxRecDepth 20000 in
theorem den (a0:(List Notice)) (a1:Int) (hp0:a1≤9223372036854775807):DenD Tryz.prog 19 [ownL 90 20 ybb a0,.int .i64 a1] (.int .i64 ((zdb a0 a1).1)) [(ownL 90 20 ybb ((zdb a0 a1).2)),.any]:=by
 generalize hR:zdb a0 a1=r
 unfold zdb at hR
 refine y2h (gb:=[true,false]) G_ok Tryz.func19 (by kernel_rfl) rfl Tryz.ntmps19 (by rw[Tryz.results19]) (by simp) ?_
 intro c hdp hL hc hk
 obtain⟨hL0,hL1,_⟩:=hL
 have hw0:a0.length<9223372036854775808:=Nat.lt_succ_of_le (yub hL0).1
 have hw1:∀ v∈a0,bwNotice v:=fun v hv=>yhi v ((yub hL0).2 v hv)
 clear hL0 hL1
 simp only[adEL,adE,adRL,adR,ownL,encL,sv,List.nil_append,List.append_nil,List.cons_append,List.length_cons,List.length_nil,pars,Nat.zero_add,Nat.reduceAdd]at hk ⊢
 iterate 2 refine rS ?_
 refine AWP.block ?_
 generalize hz1:yh (ygk a0 a1) (a0.length-0) 0 (a1,a0)=z1 at hR
 refine AWP.range (ygk a0 a1) (fun i1 s1=>⟨[(0,.ref 0 20 0 s1.2.length),(1,.int .i64 s1.1),(5,.int .i64 (i1:Int))],[.arr 90 20 s1.2.length (fun j=>ybb (s1.2.getD j default))]⟩) (fun i1 s1=>s1.2.length=a0.length∧s1.1≤9223372036854775807) (a0.length) 0 (a1,a0) [0] hz1 ot wt sm ?_
 clear hz1
 intro i1 s1 hi1 hW1 hz1
 refine rS ?_
 refine AWP.cond rfl (fun hb => ?_) (fun hb => ?_)
 ·have hlt1:i1<a0.length:=ot
  rw[yj hlt1]at hz1;simp only[ygk]at hz1
  refine rS ?_
  refine AWP.keepT [0,1,5] ?_;simp only[List.map,putL,dropL,Nat.beq_refl,cond_true,ea,absV,absVL,cput,gv,sv,dn,reduceCtorEq,reduceIte,Nat.reduceBEq,Nat.reduceAdd,Nat.reduceEqDiff,Nat.reduceLT,Nat.reduceLeDiff,Nat.reduceMul,Nat.reduceSub,BEq.rfl,beq_self_eq_true,Int.reduceToNat]
  iterate 5 refine rS ?_
  refine AWP.keepT [0,1,5] ?_;simp only[List.map,putL,dropL,Nat.beq_refl,cond_true,ea,absV,absVL,cput,gv,sv,dn,reduceCtorEq,reduceIte,Nat.reduceBEq,Nat.reduceAdd,Nat.reduceEqDiff,Nat.reduceLT,Nat.reduceLeDiff,Nat.reduceMul,Nat.reduceSub,BEq.rfl,beq_self_eq_true,Int.reduceToNat]
  iterate 5 refine rS ?_
  refine AWP.keepT [0,1,5] ?_;simp only[List.map,putL,dropL,Nat.beq_refl,cond_true,ea,absV,absVL,cput,gv,sv,dn,reduceCtorEq,reduceIte,Nat.reduceBEq,Nat.reduceAdd,Nat.reduceEqDiff,Nat.reduceLT,Nat.reduceLeDiff,Nat.reduceMul,Nat.reduceSub,BEq.rfl,beq_self_eq_true,Int.reduceToNat]
  iterate 5 refine rS ?_
  refine AWP.keepT [0,1,5] ?_;simp only[List.map,putL,dropL,Nat.beq_refl,cond_true,ea,absV,absVL,cput,gv,sv,dn,reduceCtorEq,reduceIte,Nat.reduceBEq,Nat.reduceAdd,Nat.reduceEqDiff,Nat.reduceLT,Nat.reduceLeDiff,Nat.reduceMul,Nat.reduceSub,BEq.rfl,beq_self_eq_true,Int.reduceToNat]
  iterate 5 refine rS ?_
  refine AWP.keepT [0,1,5] ?_;simp only[List.map,putL,dropL,Nat.beq_refl,cond_true,ea,absV,absVL,cput,gv,sv,dn,reduceCtorEq,reduceIte,Nat.reduceBEq,Nat.reduceAdd,Nat.reduceEqDiff,Nat.reduceLT,Nat.reduceLeDiff,Nat.reduceMul,Nat.reduceSub,BEq.rfl,beq_self_eq_true,Int.reduceToNat]
  iterate 5 refine rS ?_
  refine AWP.keepT [0,1,5] ?_;simp only[List.map,putL,dropL,Nat.beq_refl,cond_true,ea,absV,absVL,cput,gv,sv,dn,reduceCtorEq,reduceIte,Nat.reduceBEq,Nat.reduceAdd,Nat.reduceEqDiff,Nat.reduceLT,Nat.reduceLeDiff,Nat.reduceMul,Nat.reduceSub,BEq.rfl,beq_self_eq_true,Int.reduceToNat]
  iterate 2 refine rS ?_
  refine AWP.seq ?_
  refine AWP.openE rb 0 0 i1 14 rfl rfl ot (by simp only[putL,dropL,Nat.beq_refl,cond_true,ea,absV,absVL,cput,gv,sv,dn,reduceCtorEq,reduceIte,Nat.reduceBEq,Nat.reduceAdd,Nat.reduceEqDiff,Nat.reduceLT,Nat.reduceLeDiff,Nat.reduceMul,Nat.reduceSub,BEq.rfl,beq_self_eq_true,Int.reduceToNat];rfl) ?_;simp only[putL,dropL,Nat.beq_refl,cond_true,ea,absV,absVL,cput,gv,sv,dn,reduceCtorEq,reduceIte,Nat.reduceBEq,Nat.reduceAdd,Nat.reduceEqDiff,Nat.reduceLT,Nat.reduceLeDiff,Nat.reduceMul,Nat.reduceSub,BEq.rfl,beq_self_eq_true,Int.reduceToNat]
  refine rS ?_
  simp only[ol]
  refine AWP.closeE 0 0 i1 14 1 rfl rfl rfl (by decide) ot (by simp only[putL,dropL,Nat.beq_refl,cond_true,ea,absV,absVL,cput,gv,sv,dn,reduceCtorEq,reduceIte,Nat.reduceBEq,Nat.reduceAdd,Nat.reduceEqDiff,Nat.reduceLT,Nat.reduceLeDiff,Nat.reduceMul,Nat.reduceSub,BEq.rfl,beq_self_eq_true,Int.reduceToNat];rfl) (fun k hk=>by rfl) ?_;simp only[putL,dropL,Nat.beq_refl,cond_true,ea,absV,absVL,cput,gv,sv,dn,reduceCtorEq,reduceIte,Nat.reduceBEq,Nat.reduceAdd,Nat.reduceEqDiff,Nat.reduceLT,Nat.reduceLeDiff,Nat.reduceMul,Nat.reduceSub,BEq.rfl,beq_self_eq_true,Int.reduceToNat]
  iterate 2 refine rS ?_
  refine AWP.keepT [0,1,5] ?_;simp only[List.map,putL,dropL,Nat.beq_refl,cond_true,ea,absV,absVL,cput,gv,sv,dn,reduceCtorEq,reduceIte,Nat.reduceBEq,Nat.reduceAdd,Nat.reduceEqDiff,Nat.reduceLT,Nat.reduceLeDiff,Nat.reduceMul,Nat.reduceSub,BEq.rfl,beq_self_eq_true,Int.reduceToNat]
  iterate 4 refine rS ?_
  refine AWP.seq ?_
  refine AWP.openE rb 0 0 i1 18 rfl rfl ot (by simp only[putL,dropL,Nat.beq_refl,cond_true,ea,absV,absVL,cput,gv,sv,dn,reduceCtorEq,reduceIte,Nat.reduceBEq,Nat.reduceAdd,Nat.reduceEqDiff,Nat.reduceLT,Nat.reduceLeDiff,Nat.reduceMul,Nat.reduceSub,BEq.rfl,beq_self_eq_true,Int.reduceToNat];rfl) ?_;simp only[putL,dropL,Nat.beq_refl,cond_true,ea,absV,absVL,cput,gv,sv,dn,reduceCtorEq,reduceIte,Nat.reduceBEq,Nat.reduceAdd,Nat.reduceEqDiff,Nat.reduceLT,Nat.reduceLeDiff,Nat.reduceMul,Nat.reduceSub,BEq.rfl,beq_self_eq_true,Int.reduceToNat]
  refine rS ?_
  simp only[ol]
  refine AWP.closeE 0 0 i1 18 2 rfl rfl rfl (by decide) ot (by simp only[putL,dropL,Nat.beq_refl,cond_true,ea,absV,absVL,cput,gv,sv,dn,reduceCtorEq,reduceIte,Nat.reduceBEq,Nat.reduceAdd,Nat.reduceEqDiff,Nat.reduceLT,Nat.reduceLeDiff,Nat.reduceMul,Nat.reduceSub,BEq.rfl,beq_self_eq_true,Int.reduceToNat];rfl) (fun k hk=>by rfl) ?_;simp only[putL,dropL,Nat.beq_refl,cond_true,ea,absV,absVL,cput,gv,sv,dn,reduceCtorEq,reduceIte,Nat.reduceBEq,Nat.reduceAdd,Nat.reduceEqDiff,Nat.reduceLT,Nat.reduceLeDiff,Nat.reduceMul,Nat.reduceSub,BEq.rfl,beq_self_eq_true,Int.reduceToNat]
  refine AWP.keepT [0,1,5] ?_;simp only[List.map,putL,dropL,Nat.beq_refl,cond_true,ea,absV,absVL,cput,gv,sv,dn,reduceCtorEq,reduceIte,Nat.reduceBEq,Nat.reduceAdd,Nat.reduceEqDiff,Nat.reduceLT,Nat.reduceLeDiff,Nat.reduceMul,Nat.reduceSub,BEq.rfl,beq_self_eq_true,Int.reduceToNat]
  iterate 3 refine rS ?_
  exact⟨_,[0],hlt1,by(exact mrg),hz1,sm⟩
 ·obtain rfl:i1=a0.length:=ot
  rw[yi (Nat.le_refl _)]at hz1;subst hz1;dsimp only at hR
  refine AWP.exit ?_;refine yd ?_
  refine rS ?_
  refine AWP.ret ?_
  subst hR
  exact es
end N19
end Go.Ab

namespace Go.Ab
open Go Go.Proofs
def yqj (a0:(List Notice)) (a1:Int) (i1:Nat) (s1:Int):Except (Int) (Int):=
 (bif (((a0.getD i1 default).Number) != s1)then .error (-1)else(bif (((a0.getD i1 default).Day) != (IntKind.wrap .i64 (s1+1)))then .error (-1)else(bif (((a0.getD i1 default).Kind) != (IntKind.wrap .i64 ((IntKind.wrap .i64 (s1+1))+1)))then .error (-1)else(bif (((a0.getD i1 default).Target) != (IntKind.wrap .i64 ((IntKind.wrap .i64 ((IntKind.wrap .i64 (s1+1))+1))+1)))then .error (-1)else(bif ((((a0.getD i1 default).Aid).Number) != (IntKind.wrap .i64 ((IntKind.wrap .i64 ((IntKind.wrap .i64 ((IntKind.wrap .i64 (s1+1))+1))+1))+1)))then .error (-1)else(bif ((((a0.getD i1 default).Aid).Name) != (ze (IntKind.wrap .i64 ((IntKind.wrap .i64 ((IntKind.wrap .i64 ((IntKind.wrap .i64 ((IntKind.wrap .i64 (s1+1))+1))+1))+1))+1))))then .error (-1)else(bif (((((a0.getD i1 default).Aid).At).X) != (IntKind.wrap .i64 ((IntKind.wrap .i64 ((IntKind.wrap .i64 ((IntKind.wrap .i64 ((IntKind.wrap .i64 ((IntKind.wrap .i64 (s1+1))+1))+1))+1))+1))+1)))then .error (-1)else(bif (((((a0.getD i1 default).Aid).At).Y) != (IntKind.wrap .i64 ((IntKind.wrap .i64 ((IntKind.wrap .i64 ((IntKind.wrap .i64 ((IntKind.wrap .i64 ((IntKind.wrap .i64 ((IntKind.wrap .i64 (s1+1))+1))+1))+1))+1))+1))+1)))then .error (-1)else(bif ((((a0.getD i1 default).Aid).Height) != (IntKind.wrap .i64 ((IntKind.wrap .i64 ((IntKind.wrap .i64 ((IntKind.wrap .i64 ((IntKind.wrap .i64 ((IntKind.wrap .i64 ((IntKind.wrap .i64 ((IntKind.wrap .i64 (s1+1))+1))+1))+1))+1))+1))+1))+1)))then .error (-1)else(bif (((((a0.getD i1 default).Aid).Mark).Kind) != (IntKind.wrap .i64 ((IntKind.wrap .i64 ((IntKind.wrap .i64 ((IntKind.wrap .i64 ((IntKind.wrap .i64 ((IntKind.wrap .i64 ((IntKind.wrap .i64 ((IntKind.wrap .i64 ((IntKind.wrap .i64 (s1+1))+1))+1))+1))+1))+1))+1))+1))+1)))then .error (-1)else(bif (((((a0.getD i1 default).Aid).Mark).Colors) != (ze (IntKind.wrap .i64 ((IntKind.wrap .i64 ((IntKind.wrap .i64 ((IntKind.wrap .i64 ((IntKind.wrap .i64 ((IntKind.wrap .i64 ((IntKind.wrap .i64 ((IntKind.wrap .i64 ((IntKind.wrap .i64 ((IntKind.wrap .i64 (s1+1))+1))+1))+1))+1))+1))+1))+1))+1))+1))))then .error (-1)else(bif (((((a0.getD i1 default).Aid).Mark).Shape) != (ze (IntKind.wrap .i64 ((IntKind.wrap .i64 ((IntKind.wrap .i64 ((IntKind.wrap .i64 ((IntKind.wrap .i64 ((IntKind.wrap .i64 ((IntKind.wrap .i64 ((IntKind.wrap .i64 ((IntKind.wrap .i64 ((IntKind.wrap .i64 ((IntKind.wrap .i64 (s1+1))+1))+1))+1))+1))+1))+1))+1))+1))+1))+1))))then .error (-1)else(bif (((((a0.getD i1 default).Aid).Mark).Topmark) != (ze (IntKind.wrap .i64 ((IntKind.wrap .i64 ((IntKind.wrap .i64 ((IntKind.wrap .i64 ((IntKind.wrap .i64 ((IntKind.wrap .i64 ((IntKind.wrap .i64 ((IntKind.wrap .i64 ((IntKind.wrap .i64 ((IntKind.wrap .i64 ((IntKind.wrap .i64 ((IntKind.wrap .i64 (s1+1))+1))+1))+1))+1))+1))+1))+1))+1))+1))+1))+1))))then .error (-1)else(bif (((((a0.getD i1 default).Aid).Light).Kind) != (IntKind.wrap .i64 ((IntKind.wrap .i64 ((IntKind.wrap .i64 ((IntKind.wrap .i64 ((IntKind.wrap .i64 ((IntKind.wrap .i64 ((IntKind.wrap .i64 ((IntKind.wrap .i64 ((IntKind.wrap .i64 ((IntKind.wrap .i64 ((IntKind.wrap .i64 ((IntKind.wrap .i64 ((IntKind.wrap .i64 (s1+1))+1))+1))+1))+1))+1))+1))+1))+1))+1))+1))+1))+1)))then .error (-1)else(bif decide ((zo ((((a0.getD i1 default).Aid).Light).Group) (IntKind.wrap .i64 ((IntKind.wrap .i64 ((IntKind.wrap .i64 ((IntKind.wrap .i64 ((IntKind.wrap .i64 ((IntKind.wrap .i64 ((IntKind.wrap .i64 ((IntKind.wrap .i64 ((IntKind.wrap .i64 ((IntKind.wrap .i64 ((IntKind.wrap .i64 ((IntKind.wrap .i64 ((IntKind.wrap .i64 ((IntKind.wrap .i64 (s1+1))+1))+1))+1))+1))+1))+1))+1))+1))+1))+1))+1))+1))+1)))<0)then .error (-1)else(bif (((((a0.getD i1 default).Aid).Light).Letter) != (ze (zo ((((a0.getD i1 default).Aid).Light).Group) (IntKind.wrap .i64 ((IntKind.wrap .i64 ((IntKind.wrap .i64 ((IntKind.wrap .i64 ((IntKind.wrap .i64 ((IntKind.wrap .i64 ((IntKind.wrap .i64 ((IntKind.wrap .i64 ((IntKind.wrap .i64 ((IntKind.wrap .i64 ((IntKind.wrap .i64 ((IntKind.wrap .i64 ((IntKind.wrap .i64 ((IntKind.wrap .i64 (s1+1))+1))+1))+1))+1))+1))+1))+1))+1))+1))+1))+1))+1))+1)))))then .error (-1)else(bif (((((a0.getD i1 default).Aid).Light).Colors) != (ze (IntKind.wrap .i64 ((zo ((((a0.getD i1 default).Aid).Light).Group) (IntKind.wrap .i64 ((IntKind.wrap .i64 ((IntKind.wrap .i64 ((IntKind.wrap .i64 ((IntKind.wrap .i64 ((IntKind.wrap .i64 ((IntKind.wrap .i64 ((IntKind.wrap .i64 ((IntKind.wrap .i64 ((IntKind.wrap .i64 ((IntKind.wrap .i64 ((IntKind.wrap .i64 ((IntKind.wrap .i64 ((IntKind.wrap .i64 (s1+1))+1))+1))+1))+1))+1))+1))+1))+1))+1))+1))+1))+1))+1)))+1))))then .error (-1)else(bif (((((a0.getD i1 default).Aid).Light).Period) != (IntKind.wrap .i64 ((IntKind.wrap .i64 ((zo ((((a0.getD i1 default).Aid).Light).Group) (IntKind.wrap .i64 ((IntKind.wrap .i64 ((IntKind.wrap .i64 ((IntKind.wrap .i64 ((IntKind.wrap .i64 ((IntKind.wrap .i64 ((IntKind.wrap .i64 ((IntKind.wrap .i64 ((IntKind.wrap .i64 ((IntKind.wrap .i64 ((IntKind.wrap .i64 ((IntKind.wrap .i64 ((IntKind.wrap .i64 ((IntKind.wrap .i64 (s1+1))+1))+1))+1))+1))+1))+1))+1))+1))+1))+1))+1))+1))+1)))+1))+1)))then .error (-1)else(bif decide ((zz (((a0.getD i1 default).Aid).Sectors) (IntKind.wrap .i64 ((IntKind.wrap .i64 ((IntKind.wrap .i64 ((zo ((((a0.getD i1 default).Aid).Light).Group) (IntKind.wrap .i64 ((IntKind.wrap .i64 ((IntKind.wrap .i64 ((IntKind.wrap .i64 ((IntKind.wrap .i64 ((IntKind.wrap .i64 ((IntKind.wrap .i64 ((IntKind.wrap .i64 ((IntKind.wrap .i64 ((IntKind.wrap .i64 ((IntKind.wrap .i64 ((IntKind.wrap .i64 ((IntKind.wrap .i64 ((IntKind.wrap .i64 (s1+1))+1))+1))+1))+1))+1))+1))+1))+1))+1))+1))+1))+1))+1)))+1))+1))+1)))<0)then .error (-1)else(bif ((((a0.getD i1 default).Aid).Intensity) != (zz (((a0.getD i1 default).Aid).Sectors) (IntKind.wrap .i64 ((IntKind.wrap .i64 ((IntKind.wrap .i64 ((zo ((((a0.getD i1 default).Aid).Light).Group) (IntKind.wrap .i64 ((IntKind.wrap .i64 ((IntKind.wrap .i64 ((IntKind.wrap .i64 ((IntKind.wrap .i64 ((IntKind.wrap .i64 ((IntKind.wrap .i64 ((IntKind.wrap .i64 ((IntKind.wrap .i64 ((IntKind.wrap .i64 ((IntKind.wrap .i64 ((IntKind.wrap .i64 ((IntKind.wrap .i64 ((IntKind.wrap .i64 (s1+1))+1))+1))+1))+1))+1))+1))+1))+1))+1))+1))+1))+1))+1)))+1))+1))+1))))then .error (-1)else .ok (IntKind.wrap .i64 ((zz (((a0.getD i1 default).Aid).Sectors) (IntKind.wrap .i64 ((IntKind.wrap .i64 ((IntKind.wrap .i64 ((zo ((((a0.getD i1 default).Aid).Light).Group) (IntKind.wrap .i64 ((IntKind.wrap .i64 ((IntKind.wrap .i64 ((IntKind.wrap .i64 ((IntKind.wrap .i64 ((IntKind.wrap .i64 ((IntKind.wrap .i64 ((IntKind.wrap .i64 ((IntKind.wrap .i64 ((IntKind.wrap .i64 ((IntKind.wrap .i64 ((IntKind.wrap .i64 ((IntKind.wrap .i64 ((IntKind.wrap .i64 (s1+1))+1))+1))+1))+1))+1))+1))+1))+1))+1))+1))+1))+1))+1)))+1))+1))+1)))+1))))))))))))))))))))))
def zlc (a0:(List Notice)) (a1:Int):Int:=
 (match yh (yqj a0 a1) (a0.length-0) 0 a1 with|.error e=>e|.ok s1=>s1)
namespace N56
theorem DD:DOk Tryz.prog (Go.Ab.DD [(21,dP D_zo),(75,dP D_ze),(83,dP D_zz)]):=ya ylv.e <| ya y4h.e <| ya yqv.e <| ye _
theorem dn:type_of% (And.intro @D_zo.eq_1 <| And.intro @D_ze.eq_1 <| And.intro @D_zz.eq_1 <| And.intro @ydg <| @yfb):=And.intro @D_zo.eq_1 <| And.intro @D_ze.eq_1 <| And.intro @D_zz.eq_1 <| And.intro @ydg <| @yfb
theorem ol:type_of% (And.intro @ycd <| @y9):=And.intro @ycd <| @y9
theorem gr {p:Prop} (h:p:=by(grind [ycd,yhb]);first|done|fail):p:=h
theorem o1 {p:Prop} (h:p:=by(first|(exact mrg)|(exact yqh _ _ (by exact mrg))|(exact yhg _ _ (by exact mrg)));first|done|fail):p:=h
set_option maxHeartbeats 4000000 in
set_option maxRecDepth 20000 in
theorem den (a0:(List Notice)) (a1:Int) (hp0:a1≤9223372036854775807):Den Tryz.prog 56 [encL 20 eNotice a0,.int .i64 a1] (.int .i64 (zlc a0 a1)):=by
 generalize hR:zlc a0 a1=r
 unfold zlc at hR
 refine di Tryz.func56 Tryz.ntmps56 Tryz.results56 ?_
 intro c hL hc hk
 obtain⟨hL0,hL1,_⟩:=hL
 have hw0:a0.length<9223372036854775808:=Nat.lt_succ_of_le (yb hL0).1
 have hw1:∀ v∈a0,bwNotice v:=fun v hv=>yg v ((yb hL0).2 v hv)
 clear hL0 hL1
 simp only[pars,Nat.zero_add]
 iterate 2 refine rS ?_
 refine AWP.block ?_
 generalize hz1:yh (yqj a0 a1) (a0.length-0) 0 a1=z1 at hR
 refine AWP.range (yqj a0 a1) (fun i1 s1=>⟨[(0,encL 20 eNotice a0),(1,.int .i64 s1),(5,.int .i64 (i1:Int))],[]⟩) (fun i1 s1=>s1≤9223372036854775807) (a0.length) 0 a1 [] hz1 ot wt sm ?_
 clear hz1
 intro i1 s1 hi1 hW1 hz1
 refine rS ?_
 refine AWP.cond rfl (fun hb => ?_) (fun hb => ?_)
 ·have hlt1:i1<a0.length:=ot
  rw[yj hlt1]at hz1;simp only[yqj]at hz1
  refine rS ?_
  refine AWP.cond rfl (fun hb => ?_) (fun hb => ?_)
  ·simp only[hb,cond_true]at hz1
   refine rS ?_
   refine AWP.ret ?_
   subst hz1
   dsimp only at hR
   subst hR
   exact es
  ·simp only[hb,cond_false]at hz1
   iterate 2 refine rS ?_
   refine AWP.cond rfl (fun hb => ?_) (fun hb => ?_)
   ·simp only[hb,cond_true]at hz1
    refine rS ?_
    refine AWP.ret ?_
    subst hz1
    dsimp only at hR
    subst hR
    exact es
   ·simp only[hb,cond_false]at hz1
    iterate 2 refine rS ?_
    refine AWP.cond rfl (fun hb => ?_) (fun hb => ?_)
    ·simp only[hb,cond_true]at hz1
     refine rS ?_
     refine AWP.ret ?_
     subst hz1
     dsimp only at hR
     subst hR
     exact es
    ·simp only[hb,cond_false]at hz1
     iterate 2 refine rS ?_
     refine AWP.cond rfl (fun hb => ?_) (fun hb => ?_)
     ·simp only[hb,cond_true]at hz1
      refine rS ?_
      refine AWP.ret ?_
      subst hz1
      dsimp only at hR
      subst hR
      exact es
     ·simp only[hb,cond_false]at hz1
      iterate 2 refine rS ?_
      refine AWP.cond rfl (fun hb => ?_) (fun hb => ?_)
      ·simp only[hb,cond_true]at hz1
       refine rS ?_
       refine AWP.ret ?_
       subst hz1
       dsimp only at hR
       subst hR
       exact es
      ·simp only[hb,cond_false]at hz1
       refine rS ?_
       refine rD 9 ?_
       refine AWP.cond rfl (fun hb => ?_) (fun hb => ?_)
       ·simp only[hb,cond_true]at hz1
        refine rS ?_
        refine AWP.ret ?_
        subst hz1
        dsimp only at hR
        subst hR
        exact es
       ·simp only[hb,cond_false]at hz1
        iterate 2 refine rS ?_
        refine AWP.cond rfl (fun hb => ?_) (fun hb => ?_)
        ·simp only[hb,cond_true]at hz1
         refine rS ?_
         refine AWP.ret ?_
         subst hz1
         dsimp only at hR
         subst hR
         exact es
        ·simp only[hb,cond_false]at hz1
         iterate 2 refine rS ?_
         refine AWP.cond rfl (fun hb => ?_) (fun hb => ?_)
         ·simp only[hb,cond_true]at hz1
          refine rS ?_
          refine AWP.ret ?_
          subst hz1
          dsimp only at hR
          subst hR
          exact es
         ·simp only[hb,cond_false]at hz1
          iterate 2 refine rS ?_
          refine AWP.cond rfl (fun hb => ?_) (fun hb => ?_)
          ·simp only[hb,cond_true]at hz1
           refine rS ?_
           refine AWP.ret ?_
           subst hz1
           dsimp only at hR
           subst hR
           exact es
          ·simp only[hb,cond_false]at hz1
           iterate 2 refine rS ?_
           refine AWP.cond rfl (fun hb => ?_) (fun hb => ?_)
           ·simp only[hb,cond_true]at hz1
            refine rS ?_
            refine AWP.ret ?_
            subst hz1
            dsimp only at hR
            subst hR
            exact es
           ·simp only[hb,cond_false]at hz1
            refine rS ?_
            refine rD 10 ?_
            refine AWP.cond rfl (fun hb => ?_) (fun hb => ?_)
            ·simp only[hb,cond_true]at hz1
             refine rS ?_
             refine AWP.ret ?_
             subst hz1
             dsimp only at hR
             subst hR
             exact es
            ·simp only[hb,cond_false]at hz1
             refine rS ?_
             refine rD 10 ?_
             refine AWP.cond rfl (fun hb => ?_) (fun hb => ?_)
             ·simp only[hb,cond_true]at hz1
              refine rS ?_
              refine AWP.ret ?_
              subst hz1
              dsimp only at hR
              subst hR
              exact es
             ·simp only[hb,cond_false]at hz1
              refine rS ?_
              refine rD 10 ?_
              refine AWP.cond rfl (fun hb => ?_) (fun hb => ?_)
              ·simp only[hb,cond_true]at hz1
               refine rS ?_
               refine AWP.ret ?_
               subst hz1
               dsimp only at hR
               subst hR
               exact es
              ·simp only[hb,cond_false]at hz1
               iterate 2 refine rS ?_
               refine AWP.cond rfl (fun hb => ?_) (fun hb => ?_)
               ·simp only[hb,cond_true]at hz1
                refine rS ?_
                refine AWP.ret ?_
                subst hz1
                dsimp only at hR
                subst hR
                exact es
               ·simp only[hb,cond_false]at hz1
                iterate 3 refine rS ?_
                refine AWP.cond rfl (fun hb => ?_) (fun hb => ?_)
                ·simp only[hb,cond_true]at hz1
                 refine rS ?_
                 refine AWP.ret ?_
                 subst hz1
                 dsimp only at hR
                 subst hR
                 exact es
                ·simp only[hb,cond_false]at hz1
                 refine rD 10 ?_
                 refine AWP.cond rfl (fun hb => ?_) (fun hb => ?_)
                 ·simp only[hb,cond_true]at hz1
                  refine rS ?_
                  refine AWP.ret ?_
                  subst hz1
                  dsimp only at hR
                  subst hR
                  exact es
                 ·simp only[hb,cond_false]at hz1
                  refine rS ?_
                  refine rD 10 ?_
                  refine AWP.cond rfl (fun hb => ?_) (fun hb => ?_)
                  ·simp only[hb,cond_true]at hz1
                   refine rS ?_
                   refine AWP.ret ?_
                   subst hz1
                   dsimp only at hR
                   subst hR
                   exact es
                  ·simp only[hb,cond_false]at hz1
                   iterate 2 refine rS ?_
                   refine AWP.cond rfl (fun hb => ?_) (fun hb => ?_)
                   ·simp only[hb,cond_true]at hz1
                    refine rS ?_
                    refine AWP.ret ?_
                    subst hz1
                    dsimp only at hR
                    subst hR
                    exact es
                   ·simp only[hb,cond_false]at hz1
                    iterate 3 refine rS ?_
                    refine AWP.cond rfl (fun hb => ?_) (fun hb => ?_)
                    ·simp only[hb,cond_true]at hz1
                     refine rS ?_
                     refine AWP.ret ?_
                     subst hz1
                     dsimp only at hR
                     subst hR
                     exact es
                    ·simp only[hb,cond_false]at hz1
                     refine rS ?_
                     refine AWP.cond rfl (fun hb => ?_) (fun hb => ?_)
                     ·simp only[hb,cond_true]at hz1
                      refine rS ?_
                      refine AWP.ret ?_
                      subst hz1
                      dsimp only at hR
                      subst hR
                      exact es
                     ·simp only[hb,cond_false]at hz1
                      iterate 2 refine rS ?_
                      exact⟨_,[],hlt1,by(exact mrg),hz1,sm⟩
 ·obtain rfl:i1=a0.length:=ot
  rw[yi (Nat.le_refl _)]at hz1;subst hz1;dsimp only at hR
  refine AWP.exit ?_;refine yd ?_
  refine rS ?_
  refine AWP.ret ?_
  subst hR
  exact es
end N56
def D_zlc : DF
 | [x0,x1]=>some (.int .i64 (zlc (rdL yc x0) (rdI x1)),false,[wL 20 eNotice yc x0,wI .i64 x1,(rdI x1)≤9223372036854775807])
 | _=>none
theorem yrt:OkD Tryz.prog 56 D_zlc:=by unfold D_zlc;exact dk N56.den
end Go.Ab

namespace Go.Ab
open Go Go.Proofs
def yqb (x:Notice) (k:Int):Int×Notice:=
 (IntKind.wrap .i64 (((zg ((x.Aid).Sectors) (IntKind.wrap .i64 ((IntKind.wrap .i64 ((IntKind.wrap .i64 (((za (((x.Aid).Light).Group) (IntKind.wrap .i64 ((IntKind.wrap .i64 ((IntKind.wrap .i64 ((IntKind.wrap .i64 ((IntKind.wrap .i64 ((IntKind.wrap .i64 ((IntKind.wrap .i64 ((IntKind.wrap .i64 ((IntKind.wrap .i64 ((IntKind.wrap .i64 ((IntKind.wrap .i64 ((IntKind.wrap .i64 ((IntKind.wrap .i64 ((IntKind.wrap .i64 (k+1))+1))+1))+1))+1))+1))+1))+1))+1))+1))+1))+1))+1))+1))).1)+1))+1))+1))).1)+1),{ Number:=k,Day:=IntKind.wrap .i64 (k+1),Kind:=IntKind.wrap .i64 ((IntKind.wrap .i64 (k+1))+1),Target:=IntKind.wrap .i64 ((IntKind.wrap .i64 ((IntKind.wrap .i64 (k+1))+1))+1),Aid:={ Number:=IntKind.wrap .i64 ((IntKind.wrap .i64 ((IntKind.wrap .i64 ((IntKind.wrap .i64 (k+1))+1))+1))+1),Name:=(ze (IntKind.wrap .i64 ((IntKind.wrap .i64 ((IntKind.wrap .i64 ((IntKind.wrap .i64 ((IntKind.wrap .i64 (k+1))+1))+1))+1))+1))),At:={ X:=IntKind.wrap .i64 ((IntKind.wrap .i64 ((IntKind.wrap .i64 ((IntKind.wrap .i64 ((IntKind.wrap .i64 ((IntKind.wrap .i64 (k+1))+1))+1))+1))+1))+1),Y:=IntKind.wrap .i64 ((IntKind.wrap .i64 ((IntKind.wrap .i64 ((IntKind.wrap .i64 ((IntKind.wrap .i64 ((IntKind.wrap .i64 ((IntKind.wrap .i64 (k+1))+1))+1))+1))+1))+1))+1):Point },Height:=IntKind.wrap .i64 ((IntKind.wrap .i64 ((IntKind.wrap .i64 ((IntKind.wrap .i64 ((IntKind.wrap .i64 ((IntKind.wrap .i64 ((IntKind.wrap .i64 ((IntKind.wrap .i64 (k+1))+1))+1))+1))+1))+1))+1))+1),Mark:={ Kind:=IntKind.wrap .i64 ((IntKind.wrap .i64 ((IntKind.wrap .i64 ((IntKind.wrap .i64 ((IntKind.wrap .i64 ((IntKind.wrap .i64 ((IntKind.wrap .i64 ((IntKind.wrap .i64 ((IntKind.wrap .i64 (k+1))+1))+1))+1))+1))+1))+1))+1))+1),Colors:=(ze (IntKind.wrap .i64 ((IntKind.wrap .i64 ((IntKind.wrap .i64 ((IntKind.wrap .i64 ((IntKind.wrap .i64 ((IntKind.wrap .i64 ((IntKind.wrap .i64 ((IntKind.wrap .i64 ((IntKind.wrap .i64 ((IntKind.wrap .i64 (k+1))+1))+1))+1))+1))+1))+1))+1))+1))+1))),Shape:=(ze (IntKind.wrap .i64 ((IntKind.wrap .i64 ((IntKind.wrap .i64 ((IntKind.wrap .i64 ((IntKind.wrap .i64 ((IntKind.wrap .i64 ((IntKind.wrap .i64 ((IntKind.wrap .i64 ((IntKind.wrap .i64 ((IntKind.wrap .i64 ((IntKind.wrap .i64 (k+1))+1))+1))+1))+1))+1))+1))+1))+1))+1))+1))),Topmark:=(ze (IntKind.wrap .i64 ((IntKind.wrap .i64 ((IntKind.wrap .i64 ((IntKind.wrap .i64 ((IntKind.wrap .i64 ((IntKind.wrap .i64 ((IntKind.wrap .i64 ((IntKind.wrap .i64 ((IntKind.wrap .i64 ((IntKind.wrap .i64 ((IntKind.wrap .i64 ((IntKind.wrap .i64 (k+1))+1))+1))+1))+1))+1))+1))+1))+1))+1))+1))+1))):Mark },Light:={ Kind:=IntKind.wrap .i64 ((IntKind.wrap .i64 ((IntKind.wrap .i64 ((IntKind.wrap .i64 ((IntKind.wrap .i64 ((IntKind.wrap .i64 ((IntKind.wrap .i64 ((IntKind.wrap .i64 ((IntKind.wrap .i64 ((IntKind.wrap .i64 ((IntKind.wrap .i64 ((IntKind.wrap .i64 ((IntKind.wrap .i64 (k+1))+1))+1))+1))+1))+1))+1))+1))+1))+1))+1))+1))+1),Group:=(za (((x.Aid).Light).Group) (IntKind.wrap .i64 ((IntKind.wrap .i64 ((IntKind.wrap .i64 ((IntKind.wrap .i64 ((IntKind.wrap .i64 ((IntKind.wrap .i64 ((IntKind.wrap .i64 ((IntKind.wrap .i64 ((IntKind.wrap .i64 ((IntKind.wrap .i64 ((IntKind.wrap .i64 ((IntKind.wrap .i64 ((IntKind.wrap .i64 ((IntKind.wrap .i64 (k+1))+1))+1))+1))+1))+1))+1))+1))+1))+1))+1))+1))+1))+1))).2,Letter:=(ze ((za (((x.Aid).Light).Group) (IntKind.wrap .i64 ((IntKind.wrap .i64 ((IntKind.wrap .i64 ((IntKind.wrap .i64 ((IntKind.wrap .i64 ((IntKind.wrap .i64 ((IntKind.wrap .i64 ((IntKind.wrap .i64 ((IntKind.wrap .i64 ((IntKind.wrap .i64 ((IntKind.wrap .i64 ((IntKind.wrap .i64 ((IntKind.wrap .i64 ((IntKind.wrap .i64 (k+1))+1))+1))+1))+1))+1))+1))+1))+1))+1))+1))+1))+1))+1))).1)),Colors:=(ze (IntKind.wrap .i64 (((za (((x.Aid).Light).Group) (IntKind.wrap .i64 ((IntKind.wrap .i64 ((IntKind.wrap .i64 ((IntKind.wrap .i64 ((IntKind.wrap .i64 ((IntKind.wrap .i64 ((IntKind.wrap .i64 ((IntKind.wrap .i64 ((IntKind.wrap .i64 ((IntKind.wrap .i64 ((IntKind.wrap .i64 ((IntKind.wrap .i64 ((IntKind.wrap .i64 ((IntKind.wrap .i64 (k+1))+1))+1))+1))+1))+1))+1))+1))+1))+1))+1))+1))+1))+1))).1)+1))),Period:=IntKind.wrap .i64 ((IntKind.wrap .i64 (((za (((x.Aid).Light).Group) (IntKind.wrap .i64 ((IntKind.wrap .i64 ((IntKind.wrap .i64 ((IntKind.wrap .i64 ((IntKind.wrap .i64 ((IntKind.wrap .i64 ((IntKind.wrap .i64 ((IntKind.wrap .i64 ((IntKind.wrap .i64 ((IntKind.wrap .i64 ((IntKind.wrap .i64 ((IntKind.wrap .i64 ((IntKind.wrap .i64 ((IntKind.wrap .i64 (k+1))+1))+1))+1))+1))+1))+1))+1))+1))+1))+1))+1))+1))+1))).1)+1))+1):Character },Sectors:=(zg ((x.Aid).Sectors) (IntKind.wrap .i64 ((IntKind.wrap .i64 ((IntKind.wrap .i64 (((za (((x.Aid).Light).Group) (IntKind.wrap .i64 ((IntKind.wrap .i64 ((IntKind.wrap .i64 ((IntKind.wrap .i64 ((IntKind.wrap .i64 ((IntKind.wrap .i64 ((IntKind.wrap .i64 ((IntKind.wrap .i64 ((IntKind.wrap .i64 ((IntKind.wrap .i64 ((IntKind.wrap .i64 ((IntKind.wrap .i64 ((IntKind.wrap .i64 ((IntKind.wrap .i64 (k+1))+1))+1))+1))+1))+1))+1))+1))+1))+1))+1))+1))+1))+1))).1)+1))+1))+1))).2,Intensity:=((zg ((x.Aid).Sectors) (IntKind.wrap .i64 ((IntKind.wrap .i64 ((IntKind.wrap .i64 (((za (((x.Aid).Light).Group) (IntKind.wrap .i64 ((IntKind.wrap .i64 ((IntKind.wrap .i64 ((IntKind.wrap .i64 ((IntKind.wrap .i64 ((IntKind.wrap .i64 ((IntKind.wrap .i64 ((IntKind.wrap .i64 ((IntKind.wrap .i64 ((IntKind.wrap .i64 ((IntKind.wrap .i64 ((IntKind.wrap .i64 ((IntKind.wrap .i64 ((IntKind.wrap .i64 (k+1))+1))+1))+1))+1))+1))+1))+1))+1))+1))+1))+1))+1))+1))).1)+1))+1))+1))).1):Aid }:Notice })
theorem ynh (a:List Notice) (k:Int):zdb a k=ywc yqb a k:=by
 unfold zdb
 have:=yqf yqb (ygk a k) (fun i s=>rfl) a [] k
 simp only[List.length_nil,List.nil_append,Nat.sub_zero]at this ⊢
 rw[this]
theorem yqo (x:Notice) (k:Int) (hx:aidB x.Aid) (h0:0≤k) (h1:k≤281474976710656):(yqb x k).1=k+18+x.Aid.Light.Group.length+3 * x.Aid.Sectors.length:=by
 obtain⟨b1,b2⟩:=hx
 unfold yqb
 simp(disch:=omega) only[wr1]
 have g1:k+1+1+1+1+1+1+1+1+1+1+1+1+1+1=k+14:=by omega
 rw[g1,za_k _ _ (by omega) (by omega) (by omega)]
 simp(disch:=omega) only[wr1]
 rw[ync _ _ (by omega) (by omega) (by omega)]
 simp(disch:=omega) only[wr1]
 omega
theorem ypj (L:List Notice) (a1:Int) (j:Nat) (x:Notice) (s:Int) (hx:aidB x.Aid) (h0:0≤s) (h1:s≤281474976710656) (e:L.getD j default=(yqb x s).2):yqj L a1 j s=.ok (yqb x s).1:=by
 obtain⟨b1,b2⟩:=hx
 simp only[yqj,e]
 simp only[yqb]
 simp(disch:=omega) only[wr1]
 have g1:s+1+1+1+1+1+1+1+1+1+1+1+1+1+1=s+14:=by omega
 simp only[g1]
 have e1:=yrw x.Aid.Light.Group (s+14) (by omega) (by omega) (by omega)
 have e2:=za_k x.Aid.Light.Group (s+14) (by omega) (by omega) (by omega)
 simp only[e1.1,e2]
 simp(disch:=omega) only[wr1]
 have e3:=y5e x.Aid.Sectors (s+14+1 * (x.Aid.Light.Group.length:Int)+1+1+1) (by omega) (by omega) (by omega)
 have e4:=ync x.Aid.Sectors (s+14+1 * (x.Aid.Light.Group.length:Int)+1+1+1) (by omega) (by omega) (by omega)
 simp only[e3.1,e4]
 simp(disch:=omega) only[wr1]
 rw[decide_eq_false (show ¬ s+14+1 * (x.Aid.Light.Group.length:Int)<0 by omega),decide_eq_false (show ¬ s+14+1 * (x.Aid.Light.Group.length:Int)+1+1+1+3 * (x.Aid.Sectors.length:Int)<0 by omega)]
 simp only[bne_self_eq_false,cond_false]
theorem ygg (x:Notice) (k:Int) (hx:aidB x.Aid) (h0:0≤k) (h1:k≤281474976710656):k≤(yqb x k).1∧(yqb x k).1≤k+4194404:=by
 rw[yqo x k hx h0 h1]
 obtain⟨b1,b2⟩:=hx
 omega
theorem yvd (a:List Notice) (k:Int) (ha:∀ x∈a,aidB x.Aid) (hl:a.length≤1048576) (h0:0≤k) (h1:k≤140737488355328):k≤(zdb a k).1∧(zdb a k).1≤k+4194404 * a.length:=by
 rw[ynh]
 exact ylm yqb (fun x=>aidB x.Aid) 4194404 281474976710656 (by omega) ygg a k ha h0 (by omega)
theorem ysi (a:List Notice) (k:Int) (ha:∀ x∈a,aidB x.Aid) (hl:a.length≤1048576) (h0:0≤k) (h1:k≤140737488355328):zlc (zdb a k).2 k=(zdb a k).1∧¬ (zdb a k).1<0:=by
 refine⟨?_,by have:=yvd a k ha hl h0 h1;omega⟩
 rw[ynh]
 unfold zlc
 rw[yyg,Nat.sub_zero]
 rw[y3f yqb (yqj (ywc yqb a k).2 k) (fun x=>aidB x.Aid) 4194404 281474976710656 (by omega) ygg a 0 k ha h0 (by omega) (fun j x s hx g0 g1 g2=>by
  have e:(ywc yqb a k).2.getD (0+j) default=(yqb x s).2:=by rw[Nat.zero_add,List.getD_eq_getElem?_getD,g2];rfl
  exact ypj _ _ _ x s hx g0 g1 e)]
end Go.Ab

namespace Go.Ab
open Go Go.Proofs
def zjf (a0:Point):Point:=
 a0
namespace N89
theorem DD:DOk Tryz.prog (Go.Ab.DD []):=ye _
theorem den (a0:Point)  : Den Tryz.prog 89 [.agg (ePoint a0)] (.agg (ePoint (zjf a0))):=by
 generalize hR:zjf a0=r
 unfold zjf at hR
 refine di Tryz.func89 Tryz.ntmps89 Tryz.results89 ?_
 intro c hL hc hk
 clear hL
 simp only[pars,Nat.zero_add]
 iterate 5 refine rS ?_
 refine AWP.ret ?_
 subst hR
 exact es
end N89
def D_zjf : DF
 | [x0]=>some (.agg (ePoint (zjf (rdG y6e x0))),false,[wG ePoint y6e x0])
 | _=>none
theorem yt1:OkD Tryz.prog 89 D_zjf:=by unfold D_zjf;exact dk N89.den
end Go.Ab

namespace Go.Ab
open Go Go.Proofs
def zkf (a0:Mark):Mark:=
 a0
namespace N90
theorem DD:DOk Tryz.prog (Go.Ab.DD []):=ye _
theorem den (a0:Mark)  : Den Tryz.prog 90 [.agg (eMark a0)] (.agg (eMark (zkf a0))):=by
 generalize hR:zkf a0=r
 unfold zkf at hR
 refine di Tryz.func90 Tryz.ntmps90 Tryz.results90 ?_
 intro c hL hc hk
 obtain⟨hL0,_⟩:=hL
 have hw0:bwMark a0:=ysd a0 hL0
 clear hL0
 simp only[pars,Nat.zero_add]
 iterate 7 refine rS ?_
 refine AWP.ret ?_
 subst hR
 exact es
end N90
def D_zkf : DF
 | [x0]=>some (.agg (eMark (zkf (rdG ymf x0))),false,[wG eMark ymf x0])
 | _=>none
theorem y8x:OkD Tryz.prog 90 D_zkf:=by unfold D_zkf;exact dk N90.den
end Go.Ab

namespace Go.Ab
open Go Go.Proofs
def yvo (a0:(List Int)) (i1:Nat) (s1:List Int):Except ((List Int)) (List Int):=
 .ok (s1.set i1 (a0.getD i1 default))
def zxc (a0:(List Int)):(List Int):=
 (match yh (yvo a0) (a0.length-0) 0 (List.replicate a0.length (default:Int))with|.error e=>e|.ok s1=>s1)
namespace N156
theorem DD:DOk Tryz.prog (Go.Ab.DD []):=ye _
theorem den (a0:(List Int)) (hb0:a0.length<1099511627776):Den Tryz.prog 156 [encL 1 yp a0] (ownL 2 1 yp (zxc a0)):=by
 generalize hR:zxc a0=r
 unfold zxc at hR
 refine di Tryz.func156 Tryz.ntmps156 Tryz.results156 ?_
 intro c hL hc hk
 obtain⟨hL0,_⟩:=hL
 have hw0:a0.length<9223372036854775808:=Nat.lt_succ_of_le (yb hL0).1
 clear hL0
 simp only[pars,Nat.zero_add]
 iterate 3 refine rS ?_
 refine AWP.block ?_
 generalize hz1:yh (yvo a0) (a0.length-0) 0 (List.replicate a0.length (default:Int))=z1 at hR
 refine AWP.range (yvo a0) (fun i1 s1=>⟨[(0,encL 1 yp a0),(3,.ref 0 1 0 s1.length),(4,.int .i64 (i1:Int))],[.arr 2 1 s1.length (fun j=>yp (s1.getD j default))]⟩) (fun i1 s1=>s1.length=(List.replicate a0.length (default:Int)).length) (a0.length) 0 (List.replicate a0.length (default:Int)) [0] hz1 ot wt sm ?_
 clear hz1
 intro i1 s1 hi1 hW1 hz1
 refine rS ?_
 refine AWP.cond rfl (fun hb => ?_) (fun hb => ?_)
 ·have hlt1:i1<a0.length:=ot
  rw[yj hlt1]at hz1;simp only[yvo]at hz1
  iterate 2 refine rS ?_
  exact⟨_,[0],hlt1,wt,hz1,sm⟩
 ·obtain rfl:i1=a0.length:=ot
  rw[yi (Nat.le_refl _)]at hz1;subst hz1;dsimp only at hR
  refine AWP.exit ?_;refine yd ?_
  refine rS ?_
  refine AWP.ret ?_
  subst hR
  exact es
end N156
def D_zxc : DF
 | [x0]=>some (ownL 2 1 yp (zxc (rdL ylb x0)),false,[wL 1 yp ylb x0,(rdL ylb x0).length<1099511627776])
 | _=>none
theorem yuz:OkD Tryz.prog 156 D_zxc:=by unfold D_zxc;exact dk N156.den
end Go.Ab

namespace Go.Ab
open Go Go.Proofs
theorem y9v (a:List Int):zxc a=a:=by
 unfold zxc
 rw[y4f (b:=yvo a) (fun i=>a.getD i default) (by simp) (fun i s _=>rfl)]
 skip
 exact ydb a
end Go.Ab

namespace Go.Ab
open Go Go.Proofs
def zlf (a0:Character):Character:=
 { Kind:=a0.Kind,Group:=(zxc a0.Group),Letter:=a0.Letter,Colors:=a0.Colors,Period:=a0.Period:Character }
namespace N91
theorem DD:DOk Tryz.prog (Go.Ab.DD [(156,dP D_zxc)]):=ya yuz.e <| ye _
theorem dn:type_of% (@D_zxc.eq_1):=by and_intros<;>intros<;>rfl
theorem ol:type_of% (@y9v):=@y9v
theorem den (a0:Character) (hb0:bdCharacter a0):Den Tryz.prog 91 [.agg (eCharacter a0)] (.agg (y7b (zlf a0))):=by
 generalize hR:zlf a0=r
 unfold zlf at hR
 refine di Tryz.func91 Tryz.ntmps91 Tryz.results91 ?_
 intro c hL hc hk
 obtain⟨hL0,_⟩:=hL
 have hw0:bwCharacter a0:=yq a0 hL0
 clear hL0
 simp only[pars,Nat.zero_add]
 iterate 8 refine rS ?_
 refine AWP.ret ?_
 subst hR
 exact es
end N91
def D_zlf : DF
 | [x0]=>some (.agg (y7b (zlf (rdG yf x0))),false,[wG eCharacter yf x0,bdCharacter (rdG yf x0)])
 | _=>none
theorem yk0:OkD Tryz.prog 91 D_zlf:=by unfold D_zlf;exact dk N91.den
end Go.Ab

namespace Go.Ab
open Go Go.Proofs
def zbf (a0:Sector):Sector:=
 a0
namespace N157
theorem DD:DOk Tryz.prog (Go.Ab.DD []):=ye _
theorem den (a0:Sector)  : Den Tryz.prog 157 [.agg (eSector a0)] (.agg (eSector (zbf a0))):=by
 generalize hR:zbf a0=r
 unfold zbf at hR
 refine di Tryz.func157 Tryz.ntmps157 Tryz.results157 ?_
 intro c hL hc hk
 obtain⟨hL0,_⟩:=hL
 have hw0:bwSector a0:=yr a0 hL0
 clear hL0
 simp only[pars,Nat.zero_add]
 iterate 6 refine rS ?_
 refine AWP.ret ?_
 subst hR
 exact es
end N157
def D_zbf : DF
 | [x0]=>some (.agg (eSector (zbf (rdG yn x0))),false,[wG eSector yn x0])
 | _=>none
theorem yq1:OkD Tryz.prog 157 D_zbf:=by unfold D_zbf;exact dk N157.den
end Go.Ab

namespace Go.Ab
open Go Go.Proofs
def yio (a0:(List Sector)) (i1:Nat) (s1:List Sector):Except ((List Sector)) (List Sector):=
 .ok (s1.set i1 (zbf (a0.getD i1 default)))
def zyc (a0:(List Sector)):(List Sector):=
 (match yh (yio a0) (a0.length-0) 0 (List.replicate a0.length (default:Sector))with|.error e=>e|.ok s1=>s1)
namespace N92
theorem DD:DOk Tryz.prog (Go.Ab.DD [(157,dP D_zbf)]):=ya yq1.e <| ye _
theorem dn:type_of% (@D_zbf.eq_1):=by and_intros<;>intros<;>rfl
theorem den (a0:(List Sector)) (hb0:a0.length<1099511627776) (hb1:∀ v∈a0,bdSector v):Den Tryz.prog 92 [encL 3 eSector a0] (ownL 180 3 eSector (zyc a0)):=by
 generalize hR:zyc a0=r
 unfold zyc at hR
 refine di Tryz.func92 Tryz.ntmps92 Tryz.results92 ?_
 intro c hL hc hk
 obtain⟨hL0,_⟩:=hL
 have hw0:a0.length<9223372036854775808:=Nat.lt_succ_of_le (yb hL0).1
 have hw1:∀ v∈a0,bwSector v:=fun v hv=>yr v ((yb hL0).2 v hv)
 clear hL0
 simp only[pars,Nat.zero_add]
 iterate 3 refine rS ?_
 refine AWP.block ?_
 generalize hz1:yh (yio a0) (a0.length-0) 0 (List.replicate a0.length (default:Sector))=z1 at hR
 refine AWP.range (yio a0) (fun i1 s1=>⟨[(0,encL 3 eSector a0),(3,.ref 0 3 0 s1.length),(4,.int .i64 (i1:Int))],[.arr 180 3 s1.length (fun j=>eSector (s1.getD j default))]⟩) (fun i1 s1=>s1.length=(List.replicate a0.length (default:Sector)).length) (a0.length) 0 (List.replicate a0.length (default:Sector)) [0] hz1 ot wt sm ?_
 clear hz1
 intro i1 s1 hi1 hW1 hz1
 refine rS ?_
 refine AWP.cond rfl (fun hb => ?_) (fun hb => ?_)
 ·have hlt1:i1<a0.length:=ot
  rw[yj hlt1]at hz1;simp only[yio]at hz1
  iterate 2 refine rS ?_
  exact⟨_,[0],hlt1,wt,hz1,sm⟩
 ·obtain rfl:i1=a0.length:=ot
  rw[yi (Nat.le_refl _)]at hz1;subst hz1;dsimp only at hR
  refine AWP.exit ?_;refine yd ?_
  refine rS ?_
  refine AWP.ret ?_
  subst hR
  exact es
end N92
def D_zyc : DF
 | [x0]=>some (ownL 180 3 eSector (zyc (rdL yn x0)),false,[wL 3 eSector yn x0,(rdL yn x0).length<1099511627776,∀ v∈(rdL yn x0),bdSector v])
 | _=>none
theorem y6x:OkD Tryz.prog 92 D_zyc:=by unfold D_zyc;exact dk N92.den
end Go.Ab

namespace Go.Ab
open Go Go.Proofs
theorem yt4 (v:Sector):zbf v=v:=by
 unfold zbf
 rfl
end Go.Ab

namespace Go.Ab
open Go Go.Proofs
theorem y7u (a:List Sector):zyc a=a:=by
 unfold zyc
 rw[y4f (b:=yio a) (fun i=>zbf (a.getD i default)) (by simp) (fun i s _=>rfl)]
 simp only[yt4]
 exact ydb a
end Go.Ab

namespace Go.Ab
open Go Go.Proofs
def zmc (a0:Aid):Aid:=
 { Number:=a0.Number,Name:=a0.Name,At:=(zjf a0.At),Height:=a0.Height,Mark:=(zkf a0.Mark),Light:=zlf a0.Light,Sectors:=(zyc a0.Sectors),Intensity:=a0.Intensity:Aid }
namespace N33
theorem DD:DOk Tryz.prog (Go.Ab.DD [(89,dP D_zjf),(90,dP D_zkf),(91,dP D_zlf),(92,dP D_zyc)]):=ya yt1.e <| ya y8x.e <| ya yk0.e <| ya y6x.e <| ye _
theorem dn:type_of% (And.intro @D_zjf.eq_1 <| And.intro @D_zkf.eq_1 <| And.intro @D_zlf.eq_1 <| @D_zyc.eq_1):=by and_intros<;>intros<;>rfl
theorem ol:type_of% (@y7u):=@y7u
theorem den (a0:Aid) (hb0:bdAid a0):Den Tryz.prog 33 [.agg (eAid a0)] (.agg (ygb (zmc a0))):=by
 generalize hR:zmc a0=r
 unfold zmc at hR
 refine di Tryz.func33 Tryz.ntmps33 Tryz.results33 ?_
 intro c hL hc hk
 obtain⟨hL0,_⟩:=hL
 have hw0:bwAid a0:=yt a0 hL0
 clear hL0
 simp only[pars,Nat.zero_add]
 iterate 11 refine rS ?_
 refine AWP.ret ?_
 subst hR
 exact es
end N33
def D_zmc : DF
 | [x0]=>some (.agg (ygb (zmc (rdG dAid x0))),false,[wG eAid dAid x0,bdAid (rdG dAid x0)])
 | _=>none
theorem yzs:OkD Tryz.prog 33 D_zmc:=by unfold D_zmc;exact dk N33.den
end Go.Ab

namespace Go.Ab
open Go Go.Proofs
theorem y73 (v:Point):zjf v=v:=by
 unfold zjf
 rfl
end Go.Ab

namespace Go.Ab
open Go Go.Proofs
theorem yb4 (v:Mark):zkf v=v:=by
 unfold zkf
 rfl
end Go.Ab

namespace Go.Ab
open Go Go.Proofs
theorem yo4 (v:Character):zlf v=v:=by
 unfold zlf
 simp only[y9v]
end Go.Ab

namespace Go.Ab
open Go Go.Proofs
theorem yfl (v:Aid):zmc v=v:=by
 unfold zmc
 simp only[y73,yb4,yo4,y7u]
end Go.Ab
