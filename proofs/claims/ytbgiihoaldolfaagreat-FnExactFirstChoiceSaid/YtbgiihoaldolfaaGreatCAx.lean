/- A part of a proof: walks of functions and lemmas of our own. No conditions. -/
import Derived.Test.YtbgiihoaldolfaaGreatCAo
import Derived.Test.YtbgiihoaldolfaaGreatCAn
import Derived.Test.YtbgiihoaldolfaaGreatCAw
import Derived.Test.YtbgiihoaldolfaaGreatCAv
import Derived.Test.YtbgiihoaldolfaaGreatCAr
import Derived.Test.YtbgiihoaldolfaaGreatCAt
import Derived.Test.YtbgiihoaldolfaaGreatCAp
import Derived.Test.YtbgiihoaldolfaaGreatCAl
set_option linter.unusedSectionVars false
set_option linter.unusedVariables false
set_option linter.unusedSimpArgs false
set_option maxHeartbeats 1000000
namespace Go.Ab
open Go Go.Proofs
def befS (L:List (List Int)) (p:List Int):List (List Int):=L.set (p.getD 1 default).toNat ((L.getD (p.getD 1 default).toNat default)++[p.getD 0 default])
def clD (m : Nat) : Nat -> List Bool
 | 0=>List.replicate 144 false
 | k+1=>(clD m k).set (k * 12+k) true
def clS (kl:List Bool) (p:List Int):List Bool:=(kl.set ((p.getD 0 default).toNat * 12+(p.getD 1 default).toNat) true).set ((p.getD 1 default).toNat * 12+(p.getD 0 default).toNat) true
def befP (n:Nat) (a0:List (List Int)):List (List Int):=a0.foldl befS (List.replicate n (default:List Int))
def clP (a2:List Character) (a3:Int):List Bool:=(zr a2 a3).foldl clS (clD a2.length a2.length)
theorem y7h (c : Ctx) (r : List AV) : ∀ kl : List Bool, yvf c (kl.map AV.bool ++ r) = yvf c r
 | []=>rfl
 | b::kl=>by
  simp only[List.map_cons,List.cons_append,yvf,lit0,NoBor,true_and];exact y7h c r kl
structure PairsOk (n:Int) (a0:List (List Int)):Prop where
 n0:0<=n
 n1:n<=24
 row:∀ i,i<a0.length->(a0.getD i default).length=2/\0<=(a0.getD i default).getD 0 default/\(a0.getD i default).getD 0 default<(a0.getD i default).getD 1 default/\(a0.getD i default).getD 1 default<n
theorem yzm (L:List (List Int)) (p:List Int):(befS L p).length=L.length:=by unfold befS;rw[List.length_set]
theorem yyi (L : List (List Int)) : ∀ a0 : List (List Int), (a0.foldl befS L).length = L.length
 | []=>rfl
 | p::a0=>by rw[List.foldl_cons,yyi (befS L p) a0,yzm]
theorem y3i (L : List (List Int)) (hL : ∀ j, (L.getD j default).length = 0) (a0 : List (List Int)) : ∀ (q j : Nat), (((a0.take q).foldl befS L).getD j default).length <= q
 | 0,j=>by rw[List.take_zero,List.foldl_nil,hL j];exact Nat.le_refl _
 | q+1,j=>by
  have ih:=y3i L hL a0 q;rw[List.take_add_one,List.foldl_append]
  cases h:a0[q]? with
  | none=>
   simp only[Option.toList_none,List.foldl_nil];have:=ih j;omega
  | some p=>
   simp only[Option.toList_some,List.foldl_cons,List.foldl_nil];generalize (a0.take q).foldl befS L=B at ih;unfold befS;by_cases hjl:j<B.length
   ·by_cases hj:j=(p.getD 1 default).toNat
    ·subst hj
     rw[yhd _ _ _ hjl,List.length_append,List.length_singleton];have:=ih (p.getD 1 default).toNat;omega
    ·rw[yid _ _ _ _ hj]
     have:=ih j;omega
   ·rw[List.getD_eq_getElem?_getD,List.getElem?_eq_none (by rw[List.length_set];omega)]
    exact Nat.zero_le _
theorem yzh (m : Nat) : ∀ k, (clD m k).length = 144
 | 0=>List.length_replicate ..
 | k+1=>by rw[clD,List.length_set,yzh m k]
theorem yjq (kl : List Bool) : ∀ cs : List (List Int), kl.length = 144 -> (cs.foldl clS kl).length = 144
 | [],h=>h
 | p::cs,h=>by rw[List.foldl_cons];exact yjq _ cs (by unfold clS;rw[List.length_set,List.length_set,h])
namespace N29
theorem DD:DOk Tryz.prog (Go.Ab.DD [(44,dP D_zr)]):=yd yc1.e <| yj _
theorem dnG:type_of% (@D_zr.eq_1):=by intros;rfl
theorem o0 {p:Prop} (h:p:=by(first|exact hob);(first|done|fail)):p:=h
set_option maxHeartbeats 4000000 in
set_option maxRecDepth 40000 in
theorem den (a0:List (List Int)) (n:Nat) (a2:List Character) (a3:Int) (ho:PairsOk n a0) (hl0:a0.length<=1048576) (hm:a2.length<=12) (hv:∀ v∈a2,zg v=true/\bdCharacter v) (ht:0<=a3/\a3<=20) :
  DenI Tryz.prog 29 0 [] [encL 1 yt a0,.int .i64 (n:Int),encL 5 eCharacter a2,.int .i64 a3] [.box (.int .i64 (n:Int)::.int .i64 (a2.length:Int)::.ref 1 1 0 (befP n a0).length::((clP a2 a3).map AV.bool++[.int .i64 0,.int .i64 0,.nils])),.arr 26 1 (befP n a0).length (fun j=>yw ((befP n a0).getD j default))] (.ptr 0 0):=by
 refine dIL Tryz.func29 Tryz.ntmps29 Tryz.results29 ?_;intro c u hdp hlit hL hc hk0;obtain⟨n0,n1,hrow⟩:=ho;have hlit2:=hlit;simp only[litN,lit1,litR,encL]at hlit2;obtain⟨hl1,hl2,_⟩:=hlit2;have hk:=And.intro hk0 yac;have dn:=dnG;simp only[pars,Nat.zero_add,litN,lit1,encL];refine rS ?_;refine rS ?_;refine AWP.arrS 0 (fun j=>yw ((List.replicate n (default:List Int)).getD j default)) rfl zs ?_;simp only[setE];refine rS ?_;try refine AWP.seq ?_
 refine AWP.block ?_;have hnl:(List.replicate n (default:List Int)).length=n:=List.length_replicate ..;refine AWP.sim (s':=⟨[(0,.lit (u 0) (encL 1 yt a0)),(1,.int .i64 (n:Int)),(2,.lit (u 2) (encL 5 eCharacter a2)),(3,.int .i64 a3),(9,.ptr 0 0),(22,.lit (u 0) (encL 1 yt a0)),(23,.int .i64 ((a0.length:Nat):Int)),(24,.int .i64 0)],[.box (.int .i64 (n:Int)::.int .i64 (a2.length:Int)::.ref 1 1 0 (List.replicate n (default:List Int)).length::((List.replicate 144 false).map AV.bool++[.int .i64 0,.int .i64 0,.nils])),.arr 26 1 (List.replicate n (default:List Int)).length (fun j=>yw ((List.replicate n (default:List Int)).getD j default))]⟩) [1,0] ?_ (by show simK _ _ _ ⟨[(0,.lit (u 0) (encL 1 yt a0)),(1,.int .i64 (n:Int)),(2,.lit (u 2) (encL 5 eCharacter a2)),(3,.int .i64 a3),(9,.ptr 0 0),(22,.lit (u 0) (encL 1 yt a0)),(23,.int .i64 ((a0.length:Nat):Int)),(24,.int .i64 0)],[.box [.int .i64 (n:Int),.int .i64 (a2.length:Int),.ref 1 1 0 (List.replicate n (default:List Int)).length,.bool false,.bool false,.bool false,.bool false,.bool false,.bool false,.bool false,.bool false,.bool false,.bool false,.bool false,.bool false,.bool false,.bool false,.bool false,.bool false,.bool false,.bool false,.bool false,.bool false,.bool false,.bool false,.bool false,.bool false,.bool false,.bool false,.bool false,.bool false,.bool false,.bool false,.bool false,.bool false,.bool false,.bool false,.bool false,.bool false,.bool false,.bool false,.bool false,.bool false,.bool false,.bool false,.bool false,.bool false,.bool false,.bool false,.bool false,.bool false,.bool false,.bool false,.bool false,.bool false,.bool false,.bool false,.bool false,.bool false,.bool false,.bool false,.bool false,.bool false,.bool false,.bool false,.bool false,.bool false,.bool false,.bool false,.bool false,.bool false,.bool false,.bool false,.bool false,.bool false,.bool false,.bool false,.bool false,.bool false,.bool false,.bool false,.bool false,.bool false,.bool false,.bool false,.bool false,.bool false,.bool false,.bool false,.bool false,.bool false,.bool false,.bool false,.bool false,.bool false,.bool false,.bool false,.bool false,.bool false,.bool false,.bool false,.bool false,.bool false,.bool false,.bool false,.bool false,.bool false,.bool false,.bool false,.bool false,.bool false,.bool false,.bool false,.bool false,.bool false,.bool false,.bool false,.bool false,.bool false,.bool false,.bool false,.bool false,.bool false,.bool false,.bool false,.bool false,.bool false,.bool false,.bool false,.bool false,.bool false,.bool false,.bool false,.bool false,.bool false,.bool false,.bool false,.bool false,.bool false,.bool false,.bool false,.bool false,.bool false,.bool false,.bool false,.bool false,.bool false,.int .i64 0,.int .i64 0,.nils],.arr 26 1 (List.replicate n (default:List Int)).length (fun j=>yw ((List.replicate n (default:List Int)).getD j default))]⟩;rw[hnl];exact sm);refine AWP.loop (ι:=Nat) (fun q=>⟨[(0,.lit (u 0) (encL 1 yt a0)),(1,.int .i64 (n:Int)),(2,.lit (u 2) (encL 5 eCharacter a2)),(3,.int .i64 a3),(9,.ptr 0 0),(22,.lit (u 0) (encL 1 yt a0)),(23,.int .i64 ((a0.length:Nat):Int)),(24,.int .i64 ((q:Nat):Int))],[.box (.int .i64 (n:Int)::.int .i64 (a2.length:Int)::.ref 1 1 0 (((a0.take q).foldl befS (List.replicate n (default:List Int)))).length::((List.replicate 144 false).map AV.bool++[.int .i64 0,.int .i64 0,.nils])),.arr 26 1 (((a0.take q).foldl befS (List.replicate n (default:List Int)))).length (fun j=>yw ((((a0.take q).foldl befS (List.replicate n (default:List Int)))).getD j default))]⟩) (fun q=>q<=a0.length) (fun q=>a0.length-q) 0 (Nat.zero_le _) [0,1] (by simp only[List.take_zero,List.foldl_nil];exact sm) ?_;intro q hq;have hBl:((a0.take q).foldl befS (List.replicate n (default:List Int))).length=n:=by rw[yyi,List.length_replicate]
 have hBr:=y3i (List.replicate n (default:List Int)) (fun j=>by rw[yde];rfl) a0 q;generalize hB:((a0.take q).foldl befS (List.replicate n (default:List Int)))=B at hBl hBr;refine rS ?_;try refine AWP.seq ?_
 refine AWP.cond rfl (fun hq1 => ?_) (fun hq1 => ?_)
 ·have hlq:q<a0.length:=by simpa using hq1
  obtain⟨hr1,hr2,hr3,hr4⟩:=hrow q hlq;have hbl:=hBr (((a0.getD q default).getD 1 default).toNat);have hix:((a0.getD q default).getD 1 default).toNat<B.length:=by omega
  refine AWP.openB ⟨hdp,?_,?_⟩ 90 9 0 2 0 1 (((a0.getD q default).getD 1 default).toNat) 0 rfl (by rw[hc];decide) rfl rfl rfl rfl hix rfl ?_
  ·simp only[robT,y2g,NoBor]
   (repeat' first|exact trivial|exact hl1|exact hl2|refine⟨?_,?_⟩)
  ·simp only[robH,robE,yvf,lit0,y7h,NoBor,NoBorL,sv,true_and,and_true,implies_true]
  refine AWP.skip ?_;try refine AWP.seq ?_
  refine AWP.block ?_;refine rS ?_;repeat refine AWP.seq ?_
  refine AWP.regP mixed G_ok DD hc 21 [0,1,2,3,4,5,6,7,8,9,10,11,12,13,14,15,16,17,18] (.alt 19 [] [0,1,2,3,4,5,6,7,8,9,10,11,12,13,14,15] (.alt 20 [] [0,1,2,3,4,5,6,7,8,11] .leaf .stop) .stop) (by kernel_rfl) (by kernel_rfl) (by kernel_rfl) (fun K hK => ?_);simp only[yjj,runN,runP,yec,nthO,List.append,ea,absV,absVL,cput,gv,sv,dn,reduceCtorEq,reduceIte,Nat.reduceBEq,Nat.reduceAdd,Nat.reduceEqDiff,Nat.reduceLT,Nat.reduceLeDiff,Nat.reduceMul,Nat.reduceSub,BEq.rfl,beq_self_eq_true,Int.reduceToNat];generalize hp9:a0.getD q default=p at *;repeat' apply And.intro
  all_goals first|omega|refine hK _ ?_|(focus(intro i hi;by_cases hi2:i<(B.getD (p.getD 1 default).toNat default).length;(focus(simp only[ywh hi2,Bool.true_or]));(have e0:i-(B.getD (p.getD 1 default).toNat default).length=0:=by omega);(rw[e0,Bool.or_eq_true];right;rfl)))
  all_goals clear hK K
  refine AWP.arrS 1 (fun j=>yw ((befS B p).getD j default)) rfl (fun j hj => ?_) ?_
  ·unfold befS
   by_cases hjp:j=(p.getD 1 default).toNat
   ·rw[<- hjp,yhd _ _ _ hj]
    simp only[beq_self_eq_true,cond_true];refine⟨⟨rfl,rfl,by simp,fun i hi => ?_⟩,trivial⟩;by_cases hi2:i<(B.getD j default).length
    ·simp only[joinF,ysf hi2,ywh hi2,cond_true];exact yp _
    ·have e0:i-(B.getD j default).length=0:=by omega
     simp only[joinF,ypf hi2 hi,ybj hi2,cond_false,e0,elt,borrowL,borrow];exact⟨⟨rfl,rfl⟩,trivial⟩
   ·rw[yid _ _ _ _ hjp]
    simp only[beq_eq_false_iff_ne.2 hjp,cond_false];exact yp _
  simp only[setE];refine rS ?_
  have hnx:((a0.take (q+1)).foldl befS (List.replicate n (default:List Int)))=befS B p:=by
   rw[List.take_add_one,List.foldl_append,hB,List.getElem?_eq_getElem hlq, <- hp9,List.getD_eq_getElem?_getD,List.getElem?_eq_getElem hlq];rfl
  refine⟨q+1,[0,1],hlq,by omega,?_⟩;have e2:(((q+1:Nat)):Int)=IntKind.wrap .i64 ((q:Int)+1):=by rw[IntKind.wrap_i64];omega
  rw[hnx,e2,yzm];exact sm
 ·obtain rfl:q=a0.length:=(by have:¬ (q<a0.length):=(by simpa using hq1);omega)
  refine AWP.exit ?_;refine yb ?_;have hBP:B=befP n a0:=by rw[<- hB,List.take_length];rfl
  rw[<- hBP];clear hB;generalize hKK:clP a2 a3=KK;refine rS ?_;try refine AWP.seq ?_
  refine AWP.block ?_;refine AWP.loop (ι:=Nat) (fun q=>⟨[(0,.lit (u 0) (encL 1 yt a0)),(1,.int .i64 (n:Int)),(2,.lit (u 2) (encL 5 eCharacter a2)),(3,.int .i64 a3),(9,.ptr 0 0),(52,.int .i64 ((a2.length:Nat):Int)),(53,.int .i64 ((q:Nat):Int))],[.box (.int .i64 (n:Int)::.int .i64 (a2.length:Int)::.ref 1 1 0 (B).length::((clD a2.length q).map AV.bool++[.int .i64 0,.int .i64 0,.nils])),.arr 26 1 (B).length (fun j=>yw ((B).getD j default))]⟩) (fun q=>q<=a2.length) (fun q=>a2.length-q) 0 (Nat.zero_le _) [0,1] (by simp only[clD];exact sm) ?_;intro q hq;have hCl:=yzh a2.length q;refine rS ?_;try refine AWP.seq ?_
  refine AWP.cond rfl (fun hq2 => ?_) (fun hq2 => ?_)
  ·have hlq:q<a2.length:=by simpa using hq2
   refine AWP.skip ?_;try refine AWP.seq ?_
   refine AWP.block ?_;refine rS ?_;have hle:3+q * 12+q * 1<=(List.map AV.bool (clD a2.length q)++[AV.int .i64 0,AV.int .i64 0,AV.nils]).length+2:=by rw[List.length_append,List.length_map,hCl];simp only[List.length_cons,List.length_nil];omega
   have hput:putL (3+q * 12+q * 1) [AV.bool true] (.int .i64 (n:Int)::.int .i64 (a2.length:Int)::.ref 1 1 0 B.length::(List.map AV.bool (clD a2.length q)++[AV.int .i64 0,AV.int .i64 0,AV.nils]))=.int .i64 (n:Int)::.int .i64 (a2.length:Int)::.ref 1 1 0 B.length::(List.map AV.bool (clD a2.length (q+1))++[AV.int .i64 0,AV.int .i64 0,AV.nils]):=by
    rw[show 3+q * 12+q * 1=(q * 12+q)+1+1+1 by omega];simp only[putL];rw[y6g _ _ (by omega)];rfl
   have hds:=dn;clear dn;have dn:=And.intro hds (And.intro hle hput);refine rS ?_;clear dn;have dn:=hds;refine rS ?_;refine⟨q+1,[0,1],hlq,by omega,?_⟩;have e2:(((q+1:Nat)):Int)=IntKind.wrap .i64 ((q:Int)+1):=by rw[IntKind.wrap_i64];omega
   rw[e2];exact sm
  ·obtain rfl:q=a2.length:=(by have:¬ (q<a2.length):=(by simpa using hq2);omega)
   refine AWP.exit ?_;refine yb ?_;refine rS ?_;try refine AWP.seq ?_
   refine AWP.block ?_;have hcs:=ylt a2 a3 hm;have hcl9:=y4p a2 a3 hm;refine AWP.loop (ι:=Nat) (fun q=>⟨[(0,.lit (u 0) (encL 1 yt a0)),(1,.int .i64 (n:Int)),(2,.lit (u 2) (encL 5 eCharacter a2)),(3,.int .i64 a3),(9,.ptr 0 0),(66,.ref 2 1 0 (zr a2 a3).length),(67,.int .i64 (((zr a2 a3).length:Nat):Int)),(68,.int .i64 ((q:Nat):Int))],[.box (.int .i64 (n:Int)::.int .i64 (a2.length:Int)::.ref 1 1 0 (B).length::((((zr a2 a3).take q).foldl clS (clD a2.length a2.length)).map AV.bool++[.int .i64 0,.int .i64 0,.nils])),.arr 26 1 B.length (fun j=>yw (B.getD j default)),.arr 26 1 (zr a2 a3).length (fun j=>yw ((zr a2 a3).getD j default))]⟩) (fun q=>q<=(zr a2 a3).length) (fun q=>(zr a2 a3).length-q) 0 (Nat.zero_le _) [0,1,2] (by simp only[List.take_zero,List.foldl_nil];exact sm) ?_;intro q hq;have hCq:(((zr a2 a3).take q).foldl clS (clD a2.length a2.length)).length=144:=yjq _ _ (yzh _ _);generalize hCC:((zr a2 a3).take q).foldl clS (clD a2.length a2.length)=CC at hCq;refine rS ?_;try refine AWP.seq ?_
   refine AWP.cond rfl (fun hq3 => ?_) (fun hq3 => ?_)
   ·have hlq:q<(zr a2 a3).length:=by simpa using hq3
    obtain⟨hr1,hr2,hr3,hr4,hr5⟩:=hcs q hlq;refine AWP.skip ?_;try refine AWP.seq ?_
    refine AWP.block ?_;refine rS ?_;repeat refine AWP.seq ?_
    generalize hp9:(zr a2 a3).getD q default=p at *;have hle1:3+(p.getD 0 default).toNat * 12+(p.getD 1 default).toNat * 1<=(List.map AV.bool CC++[AV.int .i64 0,AV.int .i64 0,AV.nils]).length+2:=by rw[List.length_append,List.length_map,hCq];simp only[List.length_cons,List.length_nil];omega
    have hle2:3+(p.getD 1 default).toNat * 12+(p.getD 0 default).toNat * 1<=(List.map AV.bool (CC.set ((p.getD 0 default).toNat * 12+(p.getD 1 default).toNat) true)++[AV.int .i64 0,AV.int .i64 0,AV.nils]).length+2:=by rw[List.length_append,List.length_map,List.length_set,hCq];simp only[List.length_cons,List.length_nil];omega
    have hput1:putL (3+(p.getD 0 default).toNat * 12+(p.getD 1 default).toNat * 1) [AV.bool true] (.int .i64 (n:Int)::.int .i64 (a2.length:Int)::.ref 1 1 0 B.length::(List.map AV.bool CC++[AV.int .i64 0,AV.int .i64 0,AV.nils]))=.int .i64 (n:Int)::.int .i64 (a2.length:Int)::.ref 1 1 0 B.length::(List.map AV.bool (CC.set ((p.getD 0 default).toNat * 12+(p.getD 1 default).toNat) true)++[AV.int .i64 0,AV.int .i64 0,AV.nils]):=by
     rw[show 3+(p.getD 0 default).toNat * 12+(p.getD 1 default).toNat * 1=((p.getD 0 default).toNat * 12+(p.getD 1 default).toNat)+1+1+1 by omega];simp only[putL];rw[y6g _ _ (by omega)]
    have hput2:putL (3+(p.getD 1 default).toNat * 12+(p.getD 0 default).toNat * 1) [AV.bool true] (.int .i64 (n:Int)::.int .i64 (a2.length:Int)::.ref 1 1 0 B.length::(List.map AV.bool (CC.set ((p.getD 0 default).toNat * 12+(p.getD 1 default).toNat) true)++[AV.int .i64 0,AV.int .i64 0,AV.nils]))=.int .i64 (n:Int)::.int .i64 (a2.length:Int)::.ref 1 1 0 B.length::(List.map AV.bool (clS CC p)++[AV.int .i64 0,AV.int .i64 0,AV.nils]):=by
     rw[show 3+(p.getD 1 default).toNat * 12+(p.getD 0 default).toNat * 1=((p.getD 1 default).toNat * 12+(p.getD 0 default).toNat)+1+1+1 by omega];simp only[putL];rw[y6g _ _ (by rw[List.length_set];omega)];rfl
    have hds:=dn;clear dn;have dn:=And.intro hds (And.intro hle1 (And.intro hle2 (And.intro hput1 hput2)));refine AWP.regP mixed G_ok DD hc 22 [0,1,2,3,4,5,6,7,8,9,10,11,12,13,14,15,16,17,19,20,21] (.alt 18 [] [7,19,20,21] .leaf .stop) (by kernel_rfl) (by kernel_rfl) (by kernel_rfl) (fun K hK => ?_);simp only[yjj,runN,runP,yec,nthO,List.append,ea,absV,absVL,cput,gv,sv,dn,reduceCtorEq,reduceIte,Nat.reduceBEq,Nat.reduceAdd,Nat.reduceEqDiff,Nat.reduceLT,Nat.reduceLeDiff,Nat.reduceMul,Nat.reduceSub,BEq.rfl,beq_self_eq_true,Int.reduceToNat];repeat' apply And.intro
    all_goals first|omega|refine hK _ ?_|exact ot
    all_goals clear hK K
    clear dn;have dn:=hds;refine rS ?_
    have hnx:((zr a2 a3).take (q+1)).foldl clS (clD a2.length a2.length)=clS CC p:=by
     rw[List.take_add_one,List.foldl_append,hCC,List.getElem?_eq_getElem hlq, <- hp9,List.getD_eq_getElem?_getD,List.getElem?_eq_getElem hlq];rfl
    refine⟨q+1,[0,1,2],hlq,by omega,?_⟩;have e2:(((q+1:Nat)):Int)=IntKind.wrap .i64 ((q:Int)+1):=by rw[IntKind.wrap_i64];omega
    rw[hnx,e2];exact sm
   ·obtain rfl:q=(zr a2 a3).length:=(by have:¬ (q<(zr a2 a3).length):=(by simpa using hq3);omega)
    refine AWP.exit ?_;refine yb ?_;have hKC:CC=KK:=by rw[<- hCC, <- hKK,List.take_length];rfl
    subst hKC;refine rS ?_;refine AWP.ret ?_;simp only[y2c,en,ea];refine⟨[0,1],?_⟩;exact sm
end N29
theorem ybb {α β:Type} [Inhabited α] [Inhabited β] (f:α->β) {l:List α} {t:Nat} (h:t<l.length):(l.map f).getD t default=f (l.getD t default):=by
 rw[List.getD_eq_getElem?_getD,List.getD_eq_getElem?_getD,List.getElem?_map,List.getElem?_eq_getElem h];rfl
theorem yhu {α β:Type} [Inhabited α] [Inhabited β] {f:α->β} (hf:∀ a b,f a=f b->a=b) (l:List α) (n:Nat):Cyc (l.map f) n↔Cyc l n:=by
 unfold Cyc;rw[List.length_map];constructor
 ·intro h t ht
  have h2:=h t ht;rw[ybb f ht,ybb f (Nat.mod_lt _ (by omega))]at h2;exact hf _ _ h2
 ·intro h t ht
  rw[ybb f ht,ybb f (Nat.mod_lt _ (by omega)),h t ht]
theorem y0u {α β:Type} [Inhabited α] [Inhabited β] {f:α->β} (hf:∀ a b,f a=f b->a=b) (l:List α) (n:Nat):Per (l.map f) n↔Per l n:=by
 unfold Per;rw[List.length_map];constructor
 ·intro h t ht
  have h2:=h t ht;rw[ybb f (by omega),ybb f ht]at h2;exact hf _ _ h2
 ·intro h t ht
  rw[ybb f (by omega),ybb f ht,h t ht]
theorem Cyc.add {α:Type} [Inhabited α] {l:List α} {a b:Nat} (ha:Cyc l a) (hb:Cyc l b):Cyc l (a+b):=fun t ht=>by
 rw[ha t ht,hb _ (Nat.mod_lt _ (by omega))];congr 1
 rw[Nat.mod_add_mod,Nat.add_assoc]
theorem Cyc.mul {α : Type} [Inhabited α] {l : List α} {a : Nat} (ha : Cyc l a) : ∀ q, Cyc l (a * q)
 | 0=>fun t ht=>by rw[Nat.mul_zero,Nat.add_zero,Nat.mod_eq_of_lt ht]
 | q+1=>by rw[Nat.mul_succ];exact(Cyc.mul ha q).add ha
theorem Cyc.rest {α:Type} [Inhabited α] {l:List α} {a:Nat} (ha:Cyc l a):Cyc l (l.length % a):=fun t ht=>by
 have h:=(ha.mul (l.length / a)) ((t+l.length % a) % l.length) (Nat.mod_lt _ (by omega))
 rw[h,Nat.mod_add_mod,Nat.add_assoc,Nat.mod_add_div,Nat.add_mod_right,Nat.mod_eq_of_lt ht]
theorem ys0 {α:Type} [Inhabited α] {l:List α} {n:Nat} (h1:1<=n) (hc:Cyc l n) (hm:∀ m,1<=m->m<n->¬ Cyc l m):n ∣ l.length:=by
 refine Nat.dvd_of_mod_eq_zero ?_;by_cases h:l.length % n=0
 ·exact h
 ·exact absurd hc.rest (hm _ (by omega) (Nat.mod_lt _ (by omega)))
theorem yju {α : Type} [Inhabited α] {l : List α} {n : Nat} (h : Per l n) (r : Nat) : ∀ k, r + n * k < l.length -> l.getD r default = l.getD (r + n * k) default
 | 0,_=>rfl
 | k+1,hk=>by
  rw[Nat.mul_succ]at hk;rw[yju h r k (by omega),h _ (by omega),Nat.mul_succ,Nat.add_assoc]
theorem y6u {α:Type} [Inhabited α] {l:List α} {n:Nat} (h1:1<=n) (hd:n ∣ l.length):Per l n↔Cyc l n:=by
 constructor
 ·intro h t ht
  by_cases hlt:t+n<l.length
  ·rw[Nat.mod_eq_of_lt hlt];exact h t hlt
  ·obtain⟨m,hm⟩:=hd
   have hm0:m≠0:=fun e=>by rw[e,Nat.mul_zero]at hm;omega
   obtain⟨k,rfl⟩:∃ k,m=k+1:=⟨m-1,by omega⟩
   rw[Nat.mul_succ]at hm
   have e:(t+n) % l.length=t+n-l.length:=by
    rw[Nat.mod_eq_sub_mod (by omega),Nat.mod_eq_of_lt (by omega)]
   rw[e];have e2:t+n-l.length+n * k=t:=by omega
   have:=yju h (t+n-l.length) k (by omega);rw[e2]at this;exact this.symm
 ·intro h i hi
  have:=h i (by omega);rwa [Nat.mod_eq_of_lt hi]at this
def cs (x:UInt8) (b:Bool):List UInt8:=bif b then[x]else[]
def cb (x:UInt8) (b:Bool):Int:=bif b then(x.toNat:Int)else 0
theorem y3t {x:UInt8} (a b:Bool) (h:cs x a=cs x b):a=b:=by cases a<;>cases b<;>first|rfl|(simp[cs]at h)
theorem yzq {x:UInt8} (hx:x.toNat≠0) (a b:Bool) (h:cb x a=cb x b):a=b:=by
 cases a<;>cases b<;>first|rfl|(simp only[cb,cond_true,cond_false]at h;omega)
def tenB (p:List Phase):List Bool:=p.flatMap fun v=>List.replicate v.Length.toNat (v.Color != [])
def One (x:UInt8) (p:List Phase):Prop:=∀ v∈p,v.Color=[]\/v.Color=[x]
theorem y1e {β : Type} (g : Bool -> β) (f : Phase -> β) : ∀ (p : List Phase), (∀ v ∈ p, f v = g (v.Color != [])) -> (p.flatMap fun v => List.replicate v.Length.toNat (f v)) = (tenB p).map g
 | [],_=>rfl
 | v::p,h=>by
  unfold tenB;rw[List.flatMap_cons,List.flatMap_cons,List.map_append,List.map_replicate,h v (List.mem_cons_self ..)];congr 1
  exact y1e g f p fun w hw=>h w (List.mem_cons_of_mem _ hw)
theorem ykr {x:UInt8} {p:List Phase} (h:One x p):zm p=(tenB p).map (cs x):=by
 rw[y4o];exact y1e (cs x) (fun v=>v.Color) p fun v hv=>by rcases h v hv with e|e<;>simp only[e]<;>rfl
theorem y8m {x:UInt8} {p:List Phase} (h:One x p):zw p=(tenB p).map (cb x):=by
 rw[yfl];exact y1e (cb x) (fun v=>byC v.Color) p fun v hv=>by rcases h v hv with e|e<;>simp only[e]<;>rfl
theorem yqj {x:UInt8} {p:List Phase} (hp:PhOk p) (h:One x p) (hx:x.toNat≠0):∃ n:Nat,1<=n/\n<=(tenB p).length/\zp p=((tenB p).take n).map (cs x)/\zkc p=((tenB p).take n).map (cb x)/\Cyc (tenB p) n/\∀ m,1<=m->m<n->¬ Cyc (tenB p) m:=by
 obtain⟨n,e1,a1,a2,a3,a4⟩:=yfs hp;obtain⟨m,e2,b1,b2,b3,b4,b5⟩:=ydn hp;rw[ykr h]at e1 a2 a3;rw[y8m h]at e2 b2 b3 b4;rw[List.length_map]at a2 b2 b3;rw[yhu y3t]at a3;rw[y0u (yzq hx)]at b4;have a4':∀ k,1<=k->k<n->¬ Cyc (tenB p) k:=fun k h1 h2 hc=>a4 k h1 h2 (by rw[ykr h,yhu y3t];exact hc)
 have b5':∀ k,1<=k->k<m->k ∣ (tenB p).length->¬ Per (tenB p) k:=fun k h1 h2 hd hq=>b5 k h1 h2 (by rw[y8m h,List.length_map];exact hd) (by rw[y8m h,y0u (yzq hx)];exact hq)
 have hd:=ys0 a1 a3 a4'
 have hnm:n=m:=by
  rcases Nat.lt_trichotomy n m with c|c|c
  ·exact absurd ((y6u a1 hd).2 a3) (b5' n a1 c hd)
  ·exact c
  ·exact absurd ((y6u b1 b3).1 b4) (a4' m b1 c)
 subst hnm;exact⟨n,a1,a2,by rw[e1,List.map_take],by rw[e2,List.map_take],a3,a4'⟩
theorem yi1 (x:UInt8) (a b:Bool):zrd (cs x a) (cs x b)=bif a == b then 0 else(bif a then 1 else -1):=by
 unfold zrd zqd;cases a<;>cases b<;>simp[cs,Op.bytesLess]
def rB (x:UInt8) (L:List Bool) (i:Nat):Nat->Int:=fun k=>cb x (L.getD ((i+k) % L.length) default)
theorem yzd {α:Type} [Inhabited α] {L:List α} {i k:Nat} (hi:i<L.length) (hk:k<L.length):(rotL L i).getD k default=L.getD ((i+k) % L.length) default:=by
 unfold rotL;rw[List.getD_eq_getElem?_getD,List.getD_eq_getElem?_getD];congr 1
 by_cases h:k<L.length-i
 ·rw[List.getElem?_append_left (by rw[List.length_drop];exact h),List.getElem?_drop,Nat.mod_eq_of_lt (by omega)]
 ·rw[List.getElem?_append_right (by rw[List.length_drop];omega),List.length_drop,List.getElem?_take,if_pos (by omega),Nat.mod_eq_sub_mod (by omega),Nat.mod_eq_of_lt (by omega)]
  congr 1
  omega
theorem yys {x:UInt8} (hx:x.toNat≠0) {A B:List Bool} (h:A.length=B.length):zzb (A.map (cs x)) (B.map (cs x))<0↔Lx A.length (fun k=>cb x (A.getD k default)) (fun k=>cb x (B.getD k default)):=by
 have hb:∀ (j:Nat) (u:Unit),j<A.length->y9i (A.map (cs x)) (B.map (cs x)) j u=bif A.getD j default == B.getD j default then .ok ()else .error (bif A.getD j default then 1 else -1):=fun j u hj=>by
  unfold y9i;rw[List.length_map,decide_eq_false (by omega),cond_false,ybb _ hj,ybb _ (by omega),yi1];cases A.getD j default<;>cases B.getD j default<;>rfl
 unfold zzb;rw[List.length_map,List.length_map]
 rcases yu (b:=y9i (A.map (cs x)) (B.map (cs x))) (fun j => !(A.getD j default == B.getD j default)) (fun j=>bif A.getD j default then 1 else -1) (k:=A.length-0) (i:=0) (s:=()) (fun j u _ hj=>by
  rw[hb j u (by omega)]
  cases(A.getD j default == B.getD j default)<;>rfl)with⟨j,_,h2,h3,h4,h5⟩|⟨h1,h2⟩
 ·rw[h5]
  have heq:∀ k,k<j->cb x (A.getD k default)=cb x (B.getD k default):=fun k hk=>by
   have:=h4 k (by omega) hk;rw[Bool.not_eq_false',beq_iff_eq]at this;rw[this]
  simp only
  cases ha:A.getD j default with
  | true=>
   have hbj:B.getD j default=false:=by
    cases hbb:B.getD j default with
    | false=>rfl
    | true=>rw[ha,hbb]at h3;simp at h3
   refine⟨fun h=>absurd h (by decide),fun hL => ?_⟩;exact absurd (hL.trans ⟨j,by omega,fun k hk=>(heq k hk).symm,by simp only[ha,hbj,cb,cond_true,cond_false];omega⟩) Lx.irr
  | false=>
   have hbj:B.getD j default=true:=by
    cases hbb:B.getD j default with
    | true=>rfl
    | false=>rw[ha,hbb]at h3;simp at h3
   exact⟨fun _=>⟨j,by omega,heq,by simp only[ha,hbj,cb,cond_true,cond_false];omega⟩,fun _=>by decide⟩
 ·rw[h2]
  simp only;rw[decide_eq_false (by omega),cond_false];refine⟨fun h=>absurd h (by decide),fun⟨k,k1,_,k3⟩ => ?_⟩;have:=h1 k (by omega) (by omega);rw[Bool.not_eq_false',beq_iff_eq]at this;simp only at k3;rw[this]at k3;exact absurd k3 (Int.lt_irrefl _)
theorem yus {n:Nat} {f f' g g':Nat->Int} (hf:∀ k,k<n->f k=f' k) (hg:∀ k,k<n->g k=g' k):Lx n f g↔Lx n f' g':=by
 constructor
 ·rintro⟨k,k1,k2,k3⟩
  exact⟨k,k1,fun j hj=>by rw[<- hf j (by omega), <- hg j (by omega)];exact k2 j hj,by rw[<- hf k k1, <- hg k k1];exact k3⟩
 ·rintro⟨k,k1,k2,k3⟩
  exact⟨k,k1,fun j hj=>by rw[hf j (by omega),hg j (by omega)];exact k2 j hj,by rw[hf k k1,hg k k1];exact k3⟩
theorem ywt {x:UInt8} (hx:x.toNat≠0) {L:List Bool} {b:Nat} (hb:b<L.length) (h0:b≠0) (hm:∀ i,i<L.length->¬ Lx L.length (rB x L i) (rB x L b)) (he:L.getD b default=L.getD (b-1) default):∀ j,j<L.length->L.getD j default=L.getD b default:=by
 intro j hj;refine Decidable.byContradiction fun hne => ?_
 cases ha:L.getD b default with
 | true=>
  have hjf:L.getD j default=false:=by
   cases h:L.getD j default with
   | false=>rfl
   | true=>rw[ha,h]at hne;exact absurd rfl hne
  refine hm j hj ⟨0,by omega,fun k hk=>by omega,?_⟩;unfold rB;rw[Nat.add_zero,Nat.add_zero,Nat.mod_eq_of_lt hj,Nat.mod_eq_of_lt hb,hjf,ha];simp only[cb,cond_true,cond_false];omega
 | false=>
  have hjt:L.getD j default=true:=by
   cases h:L.getD j default with
   | true=>rfl
   | false=>rw[ha,h]at hne;exact absurd rfl hne
  -- the first lit place behind b
  have hex:∃ k,k<L.length/\L.getD ((b+k) % L.length) default=true:=by
   by_cases hjb:b<=j
   ·exact⟨j-b,by omega,by rw[show b+(j-b)=j by omega,Nat.mod_eq_of_lt hj];exact hjt⟩
   ·exact⟨j+L.length-b,by omega,by rw[show b+(j+L.length-b)=j+L.length by omega,Nat.add_mod_right,Nat.mod_eq_of_lt hj];exact hjt⟩
  have hfirst:∃ k,(k<L.length/\L.getD ((b+k) % L.length) default=true)/\∀ q,q<k->L.getD ((b+q) % L.length) default=false:=by
   obtain⟨k,hk⟩:=hex
   induction k using Nat.strongRecOn with
   | ind k ih=>
    by_cases hq:∃ q,q<k/\L.getD ((b+q) % L.length) default=true
    ·obtain⟨q,q1,q2⟩:=hq
     exact ih q q1 ⟨by omega,q2⟩
    ·refine⟨k,hk,fun q hqk => ?_⟩
     cases h:L.getD ((b+q) % L.length) default with
     | false=>rfl
     | true=>exact absurd ⟨q,hqk,h⟩ hq
  obtain⟨k,⟨k1,k2⟩,k3⟩:=hfirst
  have hk0:k≠0:=fun e=>by
   rw[e,Nat.add_zero,Nat.mod_eq_of_lt hb,ha]at k2;cases k2
  have hz:∀ q,q<=k->L.getD ((b-1+q) % L.length) default=false:=fun q hq=>by
   by_cases hq0:q=0
   ·rw[hq0,Nat.add_zero,Nat.mod_eq_of_lt (by omega), <- he];exact ha
   ·rw[show b-1+q=b+(q-1)by omega];exact k3 _ (by omega)
  refine hm (b-1) (by omega) ⟨k,k1,fun q hq => ?_,?_⟩
  ·unfold rB;rw[hz q (by omega),k3 q hq]
  ·unfold rB;rw[hz k (Nat.le_refl _),k2]
   simp only[cb,cond_true,cond_false];omega
theorem ycq {x:UInt8} (hx:x.toNat≠0) {L:List Bool} {a b:Nat} (ha:a<L.length) (hb:b<L.length) (h:∀ k,k<L.length->rB x L a k=rB x L b k):rotL L a=rotL L b:=by
 refine yzi (by rw[y1b,y1b]) fun k hk => ?_
 rw[y1b]at hk;rw[yzd ha hk,yzd hb hk];exact yzq hx _ _ (h k hk)
theorem yd0 {x:UInt8} (hx:x.toNat≠0) {L:List Bool} {a b:Nat} (ha:a<L.length) (hb:b<L.length):zzb ((rotL L a).map (cs x)) ((rotL L b).map (cs x))<0↔Lx L.length (rB x L a) (rB x L b):=by
 rw[yys hx (by rw[y1b,y1b]),y1b];refine yus (fun k hk => ?_) (fun k hk => ?_)
 ·show cb x ((rotL L a).getD k default)=_;rw[yzd ha hk];rfl
 ·show cb x ((rotL L b).getD k default)=_;rw[yzd hb hk];rfl
theorem yes {α β:Type} (f:α->β) (L:List α) (i:Nat):rotL (L.map f) i=(rotL L i).map f:=by
 unfold rotL;rw[List.map_append,List.map_drop,List.map_take]
theorem yfq {x:UInt8} (hx:x.toNat≠0) {p:List Phase} {L:List Bool} (h:zp p=L.map (cs x)) (h1:1<=L.length) (hl:L.length<=1000000) :
  ∃ b,b<L.length/\zo p=(rotL L b).map (cs x)/\∀ t,t<L.length->(t=0\/L.getD t default≠L.getD (t-1) default)->¬ Lx L.length (rB x L t) (rB x L b):=by
 unfold zo;rw[h,List.length_map]
 obtain⟨s,e,b,b1,rfl,b2,b3⟩:=ym (b:=ybn p) (fun j s=>∃ b,b<L.length/\s=(rotL L b).map (cs x)/\¬ Lx L.length (rB x L 0) (rB x L b)/\∀ t,t<j->t≠0->L.getD t default≠L.getD (t-1) default->¬ Lx L.length (rB x L t) (rB x L b)) (k:=L.length-0) (i:=0) (s:=L.map (cs x)) ⟨0,by omega,by unfold rotL;simp,Lx.irr,fun t ht=>by omega⟩ (by
  rintro j _ _ hj ⟨b,b1,rfl,b2,b3⟩
  have hj:j<L.length:=by omega
  have ix:((IntKind.wrap .i64 ((IntKind.wrap .i64 ((j:Int)+(L.length:Int)))-1)).tmod (L.length:Int)).toNat=(j+L.length-1) % L.length:=by
   rw[show IntKind.wrap .i64 ((j:Int)+(L.length:Int))=(j:Int)+(L.length:Int)by rw[IntKind.wrap_i64];omega,show IntKind.wrap .i64 ((j:Int)+(L.length:Int)-1)=((j+L.length-1:Nat):Int)by rw[IntKind.wrap_i64];omega];rw[Int.tmod_eq_emod_of_nonneg (by omega), <- Int.natCast_emod,Int.toNat_natCast]
  have hm:(j+L.length-1) % L.length<L.length:=Nat.mod_lt _ (by omega)
  have stay:(j≠0->L.getD j default≠L.getD (j-1) default->¬ Lx L.length (rB x L j) (rB x L b))->∃ b',b'<L.length/\(rotL L b).map (cs x)=(rotL L b').map (cs x)/\¬ Lx L.length (rB x L 0) (rB x L b')/\∀ t,t<j+1->t≠0->L.getD t default≠L.getD (t-1) default->¬ Lx L.length (rB x L t) (rB x L b'):=fun hs=>⟨b,b1,rfl,b2,fun t ht t0 hd=>by
   by_cases htj:t=j
   ·rw[htj]at t0 hd ⊢;exact hs t0 hd
   ·exact b3 t (by omega) t0 hd⟩
  unfold ybn;rw[h,List.length_map,ix,ybb _ hj,ybb _ hm]
  cases hq:(cs x (L.getD j default) == cs x (L.getD ((j+L.length-1) % L.length) default))with
  | true=>
   refine⟨_,rfl,stay fun j0 hd=>absurd ?_ hd⟩;have:=y3t _ _ (eq_of_beq hq);rw[this,show j+L.length-1=(j-1)+L.length by omega,Nat.add_mod_right,Nat.mod_eq_of_lt (by omega)]
  | false=>
   rw[cond_false,ynd (by rw[List.length_map];omega),yes];have hc:=yd0 hx hj b1;by_cases hlt:zzb ((rotL L j).map (cs x)) ((rotL L b).map (cs x))<0
   ·have hL:=hc.1 hlt
    rw[decide_eq_true hlt,cond_true];refine⟨_,rfl,j,hj,rfl,fun hx0=>b2 (hx0.trans hL),fun t ht t0 hd hxt => ?_⟩;by_cases htj:t=j
    ·rw[htj]at hxt;exact Lx.irr hxt
    ·exact b3 t (by omega) t0 hd (hxt.trans hL)
   ·rw[decide_eq_false hlt,cond_false]
    exact⟨_,rfl,stay fun _ _ hL=>hlt (hc.2 hL)⟩)
 rw[e];refine⟨b,b1,rfl,fun t ht ho => ?_⟩;by_cases t0:t=0
 ·rw[t0];exact b2
 ·rcases ho with ho|ho
  ·exact absurd ho t0
  ·exact b3 t (by omega) t0 ho
theorem y6r {x:UInt8} (hx:x.toNat≠0) {p:List Phase} (hp:PhOk p) {L:List Bool} (h:zp p=L.map (cs x)) (h2:zkc p=L.map (cb x)) :
  ∃ b:Nat,b<L.length/\zfb (zkc p)=(b:Int)/\zo p=(rotL L b).map (cs x)/\∀ i,i<L.length->¬ Lx L.length (rB x L i) (rB x L b):=by
 obtain⟨l1,l2⟩:=y9f hp;rw[h,List.length_map]at l1 l2;obtain⟨c,e,c1,c2⟩:=y8k (l:=zkc p) (by rw[h2,List.length_map];exact l1) (by rw[h2,List.length_map];omega);rw[h2,List.length_map]at c1 c2
 have hr:∀ i,i<L.length->∀ k,k<L.length->rotF (L.map (cb x)) i k=rB x L i k:=fun i hi k hk=>by
  unfold rotF rB;rw[List.length_map,ybb _ (Nat.mod_lt _ (by omega))]
 have c2':∀ i,i<L.length->¬ Lx L.length (rB x L i) (rB x L c):=fun i hi hL=>c2 i hi ((yus (hr i hi) (hr c c1)).2 hL)
 obtain⟨b,b1,b2,b3⟩:=yfq hx h l1 l2
 have hrot:rotL L b=rotL L c:=by
  rcases Lx.tri (n:=L.length) (rB x L b) (rB x L c)with hL|hL|hE
  ·exact absurd hL (c2' b b1)
  ·by_cases hc0:c=0\/L.getD c default≠L.getD (c-1) default
   ·exact absurd hL (b3 c c1 hc0)
   ·have hc1:c≠0:=fun e=>hc0 (.inl e)
    have hce:L.getD c default=L.getD (c-1) default:=Decidable.byContradiction fun e=>hc0 (.inr e)
    have hk:=ywt hx c1 hc1 c2' hce;refine ycq hx b1 c1 fun k _ => ?_
    unfold rB;rw[hk _ (Nat.mod_lt _ (by omega)),hk _ (Nat.mod_lt (c+k) (by omega))]
  ·exact ycq hx b1 c1 hE
 exact⟨c,c1,e,by rw[b2,hrot],c2'⟩
theorem ymh {x:UInt8} (hx:x.toNat≠0) {p:List Phase} (hp:PhOk p) (h1:One x p):zq p=zn (zo p):=by
 obtain⟨n,n1,n2,e1,e2,_⟩:=yqj hp h1 hx;obtain⟨b,b1,b2,b3,_⟩:=y6r hx hp e1 e2;obtain⟨l1,l2⟩:=y1m hp;generalize hL:(tenB p).take n=L at *;unfold zq;rw[b2,b3,e2];rw[e2,List.length_map]at l1 l2;unfold zec zn;rw[List.length_map,List.length_map,y1b]
 have hs:∀ j u,0<=j->j<0+(L.length-0)->yei (L.map (cb x)) (b:Int) j u=yvj ((rotL L b).map (cs x)) j u:=fun j u _ hj=>by
  have hj:j<L.length:=by omega
  have ix:((IntKind.wrap .i64 ((b:Int)+(j:Int))).tmod (L.length:Int)).toNat=(b+j) % L.length:=by
   rw[show IntKind.wrap .i64 ((b:Int)+(j:Int))=((b+j:Nat):Int)by rw[IntKind.wrap_i64];omega];rw[Int.tmod_eq_emod_of_nonneg (by omega), <- Int.natCast_emod,Int.toNat_natCast]
  have hname:∀ z:Bool,zkd (cb x z)=cs x z:=fun z=>by
   unfold zkd cb cs
   cases z with
   | false=>rfl
   | true=>
    rw[cond_true,cond_true,show((x.toNat:Int) == 0)=false by rw[beq_eq_false_iff_ne];omega,cond_false];simp
  unfold yei yvj;rw[List.length_map,ix,ybb _ (Nat.mod_lt _ (by omega)),hname,ybb _ (by rw[y1b];exact hj),yzd b1 hj]
 rw[y9k _ _ _ (fun j u h1 h2=>hs j u h1 h2)];all_goals rfl
theorem y31 {x y:UInt8} (hx:x.toNat≠0) (hy:y.toNat≠0) (a b:Bool):cb x a<cb x b↔cb y a<cb y b:=by
 cases a<;>cases b<;>simp only[cb,cond_true,cond_false]<;>omega
theorem yuw {x y:UInt8} (hx:x.toNat≠0) (hy:y.toNat≠0) {n:Nat} {L:List Bool} {i b:Nat} (h:Lx n (rB x L i) (rB x L b)):Lx n (rB y L i) (rB y L b):=by
 obtain⟨k,k1,k2,k3⟩:=h;refine⟨k,k1,fun j hj => ?_,?_⟩
 ·have:=yzq hx _ _ (k2 j hj)
  unfold rB;rw[this]
 ·unfold rB at k3 ⊢
  exact(y31 hx hy _ _).1 k3
def y2t (B R:List Bool):Prop:=∃ n b:Nat,1<=n/\n<=B.length/\Cyc B n/\(∀ m,1<=m->m<n->¬ Cyc B m)/\b<n/\R=rotL (B.take n) b/\∀ i,i<n->¬ Lx n (rB 1 (B.take n) i) (rB 1 (B.take n) b)
theorem ymm {B R R':List Bool} (h:y2t B R) (h':y2t B R'):R=R':=by
 obtain⟨n,b,a1,a2,a3,a4,a5,rfl,a7⟩:=h;obtain⟨m,c,b1,b2,b3,b4,b5,rfl,b7⟩:=h'
 have e:n=m:=by
  rcases Nat.lt_trichotomy n m with q|q|q
  ·exact absurd a3 (b4 n a1 q)
  ·exact q
  ·exact absurd b3 (a4 m b1 q)
 subst e;have hl:(B.take n).length=n:=by rw[List.length_take];omega
 rcases Lx.tri (n:=n) (rB 1 (B.take n) b) (rB 1 (B.take n) c)with q|q|q
 ·exact absurd q (b7 b a5)
 ·exact absurd q (a7 c b5)
 ·exact ycq (x:=1) (by decide) (by omega) (by omega) (by rw[hl];exact q)
theorem y9j {x:UInt8} (hx:x.toNat≠0) {p:List Phase} (hp:PhOk p) (h1:One x p):∃ R,zo p=R.map (cs x)/\y2t (tenB p) R:=by
 obtain⟨n,n1,n2,e1,e2,c1,c2⟩:=yqj hp h1 hx;obtain⟨b,b1,b2,b3,b4⟩:=y6r hx hp e1 e2;have hl:((tenB p).take n).length=n:=by rw[List.length_take];omega
 rw[hl]at b1 b4;exact⟨_,b3,n,b,n1,n2,c1,c2,b1,rfl,fun i hi hL=>b4 i hi (yuw (by decide) hx hL)⟩
def yct (s:List (Bool×Int)) (b:Bool):List (Bool×Int):=
 bif decide (0<s.length) && ((s.getD (s.length-1) default).1 == b)then s.set (s.length-1) ((s.getD (s.length-1) default).1,(s.getD (s.length-1) default).2+1)else s++[(b,1)]
def yug (R:List Bool):List (Bool×Int):=R.foldl yct []
def phB (x:UInt8) (v:Bool×Int):Phase:={ Color:=cs x v.1,Length:=v.2 }
theorem y0g (x:UInt8) {R:List Bool} (hR:R.length<=1000000):zn (R.map (cs x))=(yug R).map (phB x)/\(yug R).length<=R.length/\∀ v∈yug R,1<=v.2/\v.2<=(R.length:Int):=by
 have key:∀ (j:Nat) (s:List (Bool×Int)),j<R.length->(s.length<=j/\∀ v∈s,1<=v.2/\v.2<=(j:Int))->yvj (R.map (cs x)) j (s.map (phB x))=.ok ((yct s (R.getD j default)).map (phB x))/\((yct s (R.getD j default)).length<=j+1/\∀ v∈yct s (R.getD j default),1<=v.2/\v.2<=((j+1:Nat):Int)):=fun j s hj ⟨h1,h2⟩=>by
  have wk:∀ v∈s,1<=v.2/\v.2<=((j+1:Nat):Int):=fun v hv=>by have:=h2 v hv;omega
  unfold yvj yct;rw[List.length_map,ybb _ hj];by_cases h0:0<s.length
  ·have ix:(IntKind.wrap .i64 ((s.length:Int)-1)).toNat=s.length-1:=by rw[IntKind.wrap_i64];omega
   have hi:s.length-1<s.length:=by omega
   rw[ix,ybb _ hi,decide_eq_true (show(0:Int)<(s.length:Int)by omega),decide_eq_true h0,Bool.true_and,Bool.true_and];have hv:=h2 _ (yz hi)
   have hc:((phB x (s.getD (s.length-1) default)).Color == cs x (R.getD j default))=((s.getD (s.length-1) default).1 == R.getD j default):=by
    unfold phB;cases(s.getD (s.length-1) default).1<;>cases R.getD j default<;>simp[cs]
   rw[hc]
   cases((s.getD (s.length-1) default).1 == R.getD j default)with
   | true=>
    rw[cond_true,cond_true]
    have hw:IntKind.wrap .i64 ((phB x (s.getD (s.length-1) default)).Length+1)=(s.getD (s.length-1) default).2+1:=by
     show IntKind.wrap .i64 ((s.getD (s.length-1) default).2+1)=_;rw[IntKind.wrap_i64];omega
    rw[hw,List.map_set];refine⟨rfl,by rw[List.length_set];omega,fun v hv2 => ?_⟩;rcases List.mem_or_eq_of_mem_set hv2 with hv2|rfl
    ·exact wk v hv2
    ·simp only;omega
   | false=>
    rw[cond_false,cond_false,List.map_append];refine⟨rfl,by rw[List.length_append,List.length_singleton];omega,fun v hv2 => ?_⟩;rcases List.mem_append.1 hv2 with hv2|hv2
    ·exact wk v hv2
    ·rw[List.mem_singleton]at hv2;subst hv2;simp only;omega
  ·rw[decide_eq_false (show ¬ (0:Int)<(s.length:Int)by omega),decide_eq_false h0,Bool.false_and,Bool.false_and,cond_false,cond_false,List.map_append]
   refine⟨rfl,by rw[List.length_append,List.length_singleton];omega,fun v hv2 => ?_⟩;rcases List.mem_append.1 hv2 with hv2|hv2
   ·exact wk v hv2
   ·rw[List.mem_singleton]at hv2;subst hv2;simp only;omega
 obtain⟨t,e,s,rfl,h1,h2⟩:=ym (b:=yvj (R.map (cs x))) (fun j t=>∃ s,t=s.map (phB x)/\s=(R.take j).foldl yct []/\s.length<=j/\∀ v∈s,1<=v.2/\v.2<=(j:Int)) (k:=R.length-0) (i:=0) (s:=[]) ⟨[],rfl,by simp,by simp,fun v h=>by cases h⟩ (by
  rintro j _ _ hj ⟨s,rfl,rfl,h1,h2⟩
  obtain⟨e1,e2⟩:=key j _ (by omega) ⟨h1,h2⟩;refine⟨_,e1,_,rfl,?_,e2⟩;rw[ymc R j (by omega),List.foldl_append]
  rfl)
 rw[show 0+(R.length-0)=R.length by omega]at h1 h2;rw[List.take_length]at h1;unfold zn;rw[List.length_map,e,h1];unfold yug at *;rw[h1]at h2;exact⟨rfl,h2.1,h2.2⟩
def ysj (a0:(List Phase)) (a1:(List Phase)) (a2:Int) (i1:Nat) (s1:Unit) (s2:Bool×Int):Except (Sum (Bool) (Bool×Int)) (Bool×Int):=
 (bif (decide (s2.2<((zq a0).length:Int)) && s2.1)then .ok ((((((zq a0).getD ((s2.2).toNat) default).Color) == (((zq a1).getD (((IntKind.wrap .i64 ((i1:Int)+s2.2)).tmod ((zq a1).length:Int)).toNat) default).Color)) && (zd (IntKind.wrap .i64 ((((zq a0).getD ((s2.2).toNat) default).Length)-(((zq a1).getD (((IntKind.wrap .i64 ((i1:Int)+s2.2)).tmod ((zq a1).length:Int)).toNat) default).Length))) (IntKind.wrap .i64 (0-a2)) a2)),IntKind.wrap .i64 (s2.2+1))else .error (.inr (s2.1,s2.2)))
def yvg (a0:(List Phase)) (a1:(List Phase)) (a2:Int) (i1:Nat) (s1:Unit):Except (Bool) (Unit):=
 (match yme (ysj a0 a1 a2 i1 s1) ((((zq a0).length-(0:Int)).toNat)+1) (true,0)with|.error (.inl e)=>.error e|.error (.inr s2)=>(bif s2.1 then .error true else .ok ())|.ok _=>.error default)
def zab (a0:(List Phase)) (a1:(List Phase)) (a2:Int):Bool:=
 (bif (((zq a0).length:Int) != ((zq a1).length:Int))then false else(match ye (yvg a0 a1 a2) (((zq a1).length)-0) 0 ()with|.error e=>e|.ok s1=>false))
namespace N64
theorem DD:DOk Tryz.prog (Go.Ab.DD [(37,dP D_zd),(92,dP D_zq)]):=yd y4f.e <| yd yr0.e <| yj _
theorem dn:type_of% (And.intro @D_zd.eq_1 <| @D_zq.eq_1):=by and_intros<;>intros<;>rfl
theorem ol:type_of% (@zd.eq_1):=@zd.eq_1
theorem o1 {p:Prop} (h:p:=by(first|(have h9:=ywl (a:=IntKind.wrap .i64 ((i1:Int)+s2.2)) (n:=((zq a1).length:Int)) (by first|omega|(rw[IntKind.wrap_i64];omega)|(rw[IntKind.wrap_i64,IntKind.wrap_i64];omega)) (by omega);first|exact h9.1|exact h9.2.1|exact⟨h9.1,h9.2.1⟩|omega)|(have h9:=hW2;omega));first|done|fail):p:=h
set_option maxHeartbeats 2000000 in
set_option maxRecDepth 20000 in
theorem den (a0:(List Phase)) (a1:(List Phase)) (a2:Int) (hp0:PhOk a0) (hp1:PhOk a1):Den Tryz.prog 64 [encL 2 yn a0,encL 2 yn a1,.int .i64 a2] (.bool (zab a0 a1 a2)):=by
 generalize hR:zab a0 a1 a2=r;unfold zab at hR;refine di Tryz.func64 Tryz.ntmps64 Tryz.results64 ?_;intro c hL hc hk;obtain⟨hL0,hL1,hL2,_⟩:=hL;have hw0:a0.length<9223372036854775808:=Nat.lt_succ_of_le (yc hL0).1;have hw1:∀ v∈a0,bwPhase v:=fun v hv=>ycb v ((yc hL0).2 v hv)
 have hw2:a1.length<9223372036854775808:=Nat.lt_succ_of_le (yc hL1).1;have hw3:∀ v∈a1,bwPhase v:=fun v hv=>ycb v ((yc hL1).2 v hv)
 clear hL0 hL1 hL2;simp only[pars,Nat.zero_add];have hja:=y2j hp0;have hjb:=y2j hp1;iterate 4 refine rS ?_
 refine AWP.cond rfl (fun hb => ?_) (fun hb => ?_)
 ·replace hR:=ct hR
  refine rS ?_;refine AWP.ret ?_;subst hR;exact es
 ·replace hR:=cf hR
  refine rS ?_;refine AWP.block ?_;generalize hz1:ye (yvg a0 a1 a2) (((zq a1).length)-0) 0 ()=z1 at hR;refine AWP.range (yvg a0 a1 a2) (fun i1 s1=>⟨[(2,.int .i64 a2),(7,.ref 0 2 0 ((zq a0).length)),(8,.ref 1 2 0 ((zq a1).length)),(9,.int .i64 (i1:Int))],[.arr 112 2 (zq a0).length (fun j=>yn ((zq a0).getD j default)),.arr 112 2 (zq a1).length (fun j=>yn ((zq a1).getD j default))]⟩) (fun i1 s1=>True) (((zq a1).length)) 0 () [0,1] hz1 ot wt sm ?_;clear hz1;intro i1 s1 hi1 hW1 hz1;refine rS ?_;refine AWP.cond rfl (fun hb => ?_) (fun hb => ?_)
  ·have hlt1:i1<((zq a1).length):=ot
   rw[yg hlt1]at hz1;simp only[yvg]at hz1;iterate 2 refine rS ?_
   refine AWP.block ?_;generalize hz2:yme (ysj a0 a1 a2 i1 s1) ((((zq a0).length-(0:Int)).toNat)+1) (true,0)=z2 at hz1;refine AWP.whileW (ysj a0 a1 a2 i1 s1) (fun s2=>⟨[(2,.int .i64 a2),(7,.ref 0 2 0 ((zq a0).length)),(8,.ref 1 2 0 ((zq a1).length)),(9,.int .i64 (i1:Int)),(10,.bool s2.1),(11,.int .i64 s2.2)],[.arr 112 2 (zq a0).length (fun j=>yn ((zq a0).getD j default)),.arr 112 2 (zq a1).length (fun j=>yn ((zq a1).getD j default))]⟩) (fun s2=>0<=s2.2/\s2.2<=(zq a0).length) (fun s2=>((zq a0).length-s2.2).toNat) ((((zq a0).length-(0:Int)).toNat)+1) (true,0) [0,1] hz2 m0 (by(exact⟨by(try dsimp only);omega,by(try dsimp only);omega⟩)) sm ?_;clear hz2;intro s2 k2 hW2 hm2 hz2;simp only[ysj]at hz2;refine rS ?_;refine AWP.cond rfl (fun hb => ?_) (fun hb => ?_)
   ·simp only[hb,cond_true]at hz2
    refine rS ?_;refine rD 22 ?_;refine rS ?_;exact⟨_,[0,1],by(have hcx:(decide (s2.2<((zq a0).length:Int)) && s2.1)=true:=(by assumption);simp only[Bool.and_eq_true,decide_eq_true_eq]at hcx;have hw8:IntKind.wrap .i64 (s2.2+1)=s2.2+1:=(by rw[IntKind.wrap_i64];omega);(try dsimp only);rw[hw8];omega),by(have hcx:(decide (s2.2<((zq a0).length:Int)) && s2.1)=true:=(by assumption);simp only[Bool.and_eq_true,decide_eq_true_eq]at hcx;have hw8:IntKind.wrap .i64 (s2.2+1)=s2.2+1:=(by rw[IntKind.wrap_i64];omega);(try dsimp only);rw[hw8];exact⟨by omega,by omega⟩),hz2,sm⟩
   ·simp only[hb,cond_false]at hz2
    refine AWP.exit ?_;refine yb ?_;subst hz2;dsimp only at hz1;refine rS ?_;refine AWP.cond rfl (fun hb => ?_) (fun hb => ?_)
    ·simp only[hb,cond_true]at hz1
     refine rS ?_;refine AWP.ret ?_;subst hz1;dsimp only at hR;subst hR;exact es
    ·simp only[hb,cond_false]at hz1
     refine rS ?_;exact⟨_,[0,1],hlt1,wt,hz1,sm⟩
  ·obtain rfl:i1=((zq a1).length):=ot
   rw[yh (Nat.le_refl _)]at hz1;subst hz1;dsimp only at hR;refine AWP.exit ?_;refine yb ?_;refine rS ?_;refine AWP.ret ?_;subst hR;exact es
end N64
def D_zab : DF
 | [x0,x1,x2]=>some (.bool (zab (rdL y6 x0) (rdL y6 x1) (rdI x2)),false,[wL 2 yn y6 x0,wL 2 yn y6 x1,wI .i64 x2,PhOk (rdL y6 x0),PhOk (rdL y6 x1)])
 | _=>none
theorem yyx:OkD Tryz.prog 64 D_zab:=by unfold D_zab;exact dk N64.den
def CloB (A B:List (Bool×Int)) (w:Int):Prop:=A.length=B.length/\∃ f,f<B.length/\∀ i,i<A.length->(A.getD i default).1=(B.getD ((f+i) % B.length) default).1 /\ -w<=(A.getD i default).2-(B.getD ((f+i) % B.length) default).2/\(A.getD i default).2-(B.getD ((f+i) % B.length) default).2<=w
def Sm (A:List (Bool×Int)):Prop:=A.length<=1000000/\∀ v∈A,1<=v.2/\v.2<=1000000
theorem Sm.at {A:List (Bool×Int)} (h:Sm A) {i:Nat} (hi:i<A.length):1<=(A.getD i default).2/\(A.getD i default).2<=1000000:=h.2 _ (yz hi)
theorem y2z (x:UInt8) (a b:Bool):(cs x a == cs x b)=(a == b):=by cases a<;>cases b<;>simp[cs]
theorem yew (x:UInt8) {u v:Bool×Int} {w:Int} (hu:1<=u.2/\u.2<=1000000) (hv:1<=v.2/\v.2<=1000000):zhd (phB x u) (phB x v) w=true↔u.1=v.1 /\ -w<=u.2-v.2/\u.2-v.2<=w:=by
 unfold zhd zzd phB;simp only;rw[y2z,show IntKind.wrap .i64 (u.2-v.2)=u.2-v.2 by rw[IntKind.wrap_i64];omega,show IntKind.wrap .i64 (v.2-u.2)=v.2-u.2 by rw[IntKind.wrap_i64];omega];rw[Bool.and_eq_true,beq_iff_eq,decide_eq_true_eq];split<;>constructor<;>rintro⟨h1,h2⟩<;>refine⟨h1,?_⟩<;>omega
theorem y4s (A T:List Phase) (w:Int) (h:A.length=T.length):zac A T w=true↔∀ i,i<A.length->zhd (A.getD i default) (T.getD i default) w=true:=by
 unfold zac;rw[show((A.length:Int) != (T.length:Int))=false by rw[h];simp,cond_false];rcases yu (b:=ylp A T w) (fun i => !(zhd (A.getD i default) (T.getD i default) w)) (fun _=>false) (k:=A.length-0) (i:=0) (s:=()) (fun j u _ _=>rfl)with⟨j,_,h2,h3,_,h5⟩|⟨h1,h2⟩
 ·rw[h5]
  refine⟨fun h=>(by cases h),fun h => ?_⟩;rw[h j (by omega)]at h3;cases h3
 ·rw[h2]
  exact⟨fun _ i hi=>by have:=h1 i (by omega) (by omega);simpa using this,fun _=>rfl⟩
theorem y9w {x:UInt8} {p q:List Phase} {w:Int} {A B:List (Bool×Int)} (hA:zn (zo p)=A.map (phB x)) (hB:zn (zo q)=B.map (phB x)) (sA:Sm A) (sB:Sm B):ztb p q w=true↔CloB A B w:=by
 unfold ztb;rw[hA,hB,List.length_map,List.length_map];by_cases hl:A.length=B.length
 ·rw[show((A.length:Int) != (B.length:Int))=false by rw[hl];simp,cond_false]
  have hs:∀ f,f<B.length->(zac (A.map (phB x)) (zpb [subL (B.map (phB x)) f ((B.map (phB x)).length-f),subL (B.map (phB x)) 0 f]) w=true↔∀ i,i<A.length->(A.getD i default).1=(B.getD ((f+i) % B.length) default).1 /\ -w<=(A.getD i default).2-(B.getD ((f+i) % B.length) default).2/\(A.getD i default).2-(B.getD ((f+i) % B.length) default).2<=w):=fun f hf=>by
   have hr:zpb [subL (B.map (phB x)) f ((B.map (phB x)).length-f),subL (B.map (phB x)) 0 f]=(rotL B f).map (phB x):=by
    rw[yut, <- yes];unfold rotL;rw[yag _ _ _ (by rw[List.length_map];omega),yag _ _ _ (by rw[List.length_map];omega),List.drop_zero,List.take_of_length_le (by rw[List.length_drop];omega)];simp
   rw[hr,y4s _ _ _ (by rw[List.length_map,List.length_map,y1b,hl]),List.length_map]
   have hi:∀ i,i<A.length->(zhd ((A.map (phB x)).getD i default) (((rotL B f).map (phB x)).getD i default) w=true↔(A.getD i default).1=(B.getD ((f+i) % B.length) default).1 /\ -w<=(A.getD i default).2-(B.getD ((f+i) % B.length) default).2/\(A.getD i default).2-(B.getD ((f+i) % B.length) default).2<=w):=fun i hi=>by
    rw[ybb _ hi,ybb _ (by rw[y1b];omega),yzd hf (by omega)];exact yew x (sA.at hi) (sB.at (Nat.mod_lt _ (by omega)))
   exact⟨fun h i h2=>(hi i h2).1 (h i h2),fun h i h2=>(hi i h2).2 (h i h2)⟩
  rcases yu (b:=yzl p q w) (fun f=>zac (A.map (phB x)) (zpb [subL (B.map (phB x)) f ((B.map (phB x)).length-f),subL (B.map (phB x)) 0 f]) w) (fun _=>true) (k:=B.length-0) (i:=0) (s:=()) (fun j u _ _=>by unfold yzl;rw[hA,hB])with⟨j,_,h2,h3,_,h5⟩|⟨h1,h2⟩
  ·rw[h5]
   exact⟨fun _=>⟨hl,j,by omega,(hs j (by omega)).1 h3⟩,fun _=>rfl⟩
  ·rw[h2]
   refine⟨fun h=>(by cases h),fun⟨_,f,hf,h⟩ => ?_⟩;have:=h1 f (by omega) (by omega);rw[(hs f hf).2 h]at this;cases this
 ·rw[show((A.length:Int) != (B.length:Int))=true by rw[bne_iff_ne];omega,cond_true]
  exact⟨fun h=>(by cases h),fun⟨h,_⟩=>absurd h hl⟩
theorem yxm {x:UInt8} {p q:List Phase} {w:Int} {A B:List (Bool×Int)} (hA:zq p=A.map (phB x)) (hB:zq q=B.map (phB x)) (sA:Sm A) (sB:Sm B) (hw:0<=w/\w<=20):zab p q w=true↔CloB A B w:=by
 unfold zab;rw[hA,hB,List.length_map,List.length_map];by_cases hl:A.length=B.length
 ·rw[show((A.length:Int) != (B.length:Int))=false by rw[hl];simp,cond_false]
  let P:Nat->Nat->Prop:=fun f i=>(A.getD i default).1=(B.getD ((f+i) % B.length) default).1 /\ -w<=(A.getD i default).2-(B.getD ((f+i) % B.length) default).2/\(A.getD i default).2-(B.getD ((f+i) % B.length) default).2<=w
  have hs:∀ (f:Nat) (u:Unit),f<B.length->∃ s:Bool×Int,yme (ysj p q w f u) (((A.length-(0:Int)).toNat)+1) (true,0)=.error (.inr s)/\(s.1=true↔∀ i,i<A.length->P f i):=fun f u hf=>by
   obtain ⟨e, he, s, rfl, hq⟩ := ych (b := ysj p q w f u) (fun s => 0 <= s.2 /\ s.2 <= (A.length : Int) /\ (s.1 = true -> ∀ i : Nat, (i : Int) < s.2 -> P f i) /\ (s.1 = false -> ∃ i, i < A.length /\ ¬ P f i))
    (fun e=>∃ s:Bool×Int,e=.inr s/\(s.1=true↔∀ i,i<A.length->P f i)) (fun s=>((A.length:Int)-s.2).toNat) (by
    rintro⟨b,i⟩ ⟨i1,i2,i3,i4⟩
    simp only at i1 i2 i3 i4;obtain⟨k,rfl⟩:∃ k:Nat,i=(k:Int):=⟨i.toNat,by omega⟩
    unfold ysj;simp only;rw[hA,hB,List.length_map,List.length_map];by_cases hk:k<A.length
    ·rw[decide_eq_true (show(k:Int)<(A.length:Int)by omega),Bool.true_and]
     cases b with
     | false=>
      right
      rw[cond_false];obtain⟨z,z1,z2⟩:=i4 rfl;exact⟨_,rfl,_,rfl,⟨fun h=>(by cases h),fun h=>absurd (h z z1) z2⟩⟩
     | true=>
      left
      rw[cond_true]
      have ix:((IntKind.wrap .i64 ((f:Int)+(k:Int))).tmod (B.length:Int)).toNat=(f+k) % B.length:=by
       have:=sB.1;have:=sA.1;rw[show IntKind.wrap .i64 ((f:Int)+(k:Int))=((f+k:Nat):Int)by rw[IntKind.wrap_i64];omega];rw[Int.tmod_eq_emod_of_nonneg (by omega), <- Int.natCast_emod,Int.toNat_natCast]
      have hm:(f+k) % B.length<B.length:=Nat.mod_lt _ (by omega);have bu:=sA.at hk;have bv:=sB.at hm;rw[Int.toNat_natCast,ix,ybb _ hk,ybb _ hm];have hw1:IntKind.wrap .i64 ((k:Int)+1)=(k:Int)+1:=by have:=sA.1;rw[IntKind.wrap_i64];omega
      rw[hw1]
      have hP:(((phB x (A.getD k default)).Color == (phB x (B.getD ((f+k) % B.length) default)).Color) && (zd (IntKind.wrap .i64 ((phB x (A.getD k default)).Length-(phB x (B.getD ((f+k) % B.length) default)).Length)) (IntKind.wrap .i64 (0-w)) w))=true↔P f k:=by
       show((cs x (A.getD k default).1 == cs x (B.getD ((f+k) % B.length) default).1) && (zd (IntKind.wrap .i64 ((A.getD k default).2-(B.getD ((f+k) % B.length) default).2)) (IntKind.wrap .i64 (0-w)) w))=true↔_;rw[y2z,show IntKind.wrap .i64 ((A.getD k default).2-(B.getD ((f+k) % B.length) default).2)=(A.getD k default).2-(B.getD ((f+k) % B.length) default).2 by rw[IntKind.wrap_i64];omega,show IntKind.wrap .i64 (0-w) = -w by rw[IntKind.wrap_i64];omega];unfold zd;rw[Bool.and_eq_true,Bool.and_eq_true,beq_iff_eq,decide_eq_true_eq,decide_eq_true_eq]
      refine⟨_,rfl,⟨by simp only;omega,by simp only;omega,fun hb z hz => ?_,fun hb=>⟨k,hk,fun hp => ?_⟩⟩,by simp only;omega⟩
      ·simp only at hb hz
       by_cases hzk:z=k
       ·rw[hzk];exact hP.1 hb
       ·exact i3 rfl z (by omega)
      ·simp only at hb
       rw[hP.2 hp]at hb;cases hb
    ·right
     rw[decide_eq_false (show ¬ (k:Int)<(A.length:Int)by omega),Bool.false_and,cond_false];refine⟨_,rfl,_,rfl,?_⟩
     cases b with
     | true=>exact⟨fun _ z hz=>i3 rfl z (by omega),fun _=>rfl⟩
     | false=>
      obtain⟨z,z1,z2⟩:=i4 rfl
      exact⟨fun h=>(by cases h),fun h=>absurd (h z z1) z2⟩) (((A.length-(0:Int)).toNat)+1) (true,0) ⟨by simp,by simp only;omega,fun _ z hz=>by simp only at hz;omega,fun h=>(by cases h)⟩ (by simp only;omega)
   exact⟨s,he,hq⟩
  have hb:∀ (f:Nat) (u:Unit),f<B.length->(yvg p q w f u=.error true/\∀ i,i<A.length->P f i)\/(yvg p q w f u=.ok ()/\¬ ∀ i,i<A.length->P f i):=fun f u hf=>by
   obtain⟨s,e1,e2⟩:=hs f u hf;unfold yvg;rw[hA,List.length_map,e1]
   cases hq:s.1 with
   | true=>exact .inl ⟨by simp[hq],e2.1 hq⟩
   | false=>exact .inr ⟨by simp[hq],fun h=>by rw[e2.2 h]at hq;cases hq⟩
  have key:∀ (n f:Nat) (u:Unit),f+n=B.length->(∃ g,g<B.length/\f<=g/\(∀ i,i<A.length->P g i)/\ye (yvg p q w) n f u=.error true)\/((∀ g,f<=g->g<B.length->¬ ∀ i,i<A.length->P g i)/\ye (yvg p q w) n f u=.ok ()):=by
   intro n
   induction n with
   | zero=>intro f u h;exact .inr ⟨fun g h1 h2=>by omega,rfl⟩
   | succ n ih=>
    intro f u h;simp only[ye];rcases hb f u (by omega)with⟨e,hp⟩|⟨e,hp⟩
    ·rw[e];exact .inl ⟨f,by omega,Nat.le_refl _,hp,rfl⟩
    ·rw[e]
     rcases ih (f+1) () (by omega)with⟨g,g1,g2,g3,g4⟩|⟨g1,g2⟩
     ·exact .inl ⟨g,g1,by omega,g3,g4⟩
     ·refine .inr ⟨fun g h1 h2 => ?_,g2⟩
      by_cases hg:g=f
      ·rw[hg];exact hp
      ·exact g1 g (by omega) h2
  rcases key (B.length-0) 0 () (by omega)with⟨g,g1,_,g3,g4⟩|⟨g1,g2⟩
  ·rw[g4]
   exact⟨fun _=>⟨hl,g,g1,g3⟩,fun _=>rfl⟩
  ·rw[g2]
   exact⟨fun h=>(by cases h),fun⟨_,f,hf,h⟩=>absurd h (g1 f (by omega) hf)⟩
 ·rw[show((A.length:Int) != (B.length:Int))=true by rw[bne_iff_ne];omega,cond_true]
  exact⟨fun h=>(by cases h),fun⟨h,_⟩=>absurd h hl⟩
end Go.Ab
