/- A part of a proof: walks of functions and lemmas of our own. No conditions. -/
import Derived.Test.YtopoomikfjodkaaGreatDoorRAl
import Derived.Test.YtopoomikfjodkaaGreatDoorRAk
import Derived.Test.YtopoomikfjodkaaGreatDoorRAu
set_option linter.unusedSectionVars false
set_option linter.unusedVariables false
set_option linter.unusedSimpArgs false
set_option maxHeartbeats 1000000
namespace Go.Ab
open Go Go.Proofs
def y6j (a0:(List UInt8)) (a1:Int) (s1:Int×Int×List (List UInt8)):Except (Sum (((List (List UInt8))×(List UInt8))) (Int×Int×List (List UInt8))) (Int×Int×List (List UInt8)):=
 (bif (decide (s1.2.1<(a0.length:Int)) && decide ((s1.2.2.length:Int)<a1))then(bif (((a0.getD ((s1.2.1).toNat) 0).toNat:Int) == 32)then .ok (IntKind.wrap .i64 (s1.2.1+1),IntKind.wrap .i64 (s1.2.1+1),s1.2.2++[(a0.take ((s1.2.1).toNat)).drop ((s1.1).toNat)])else .ok (s1.1,IntKind.wrap .i64 (s1.2.1+1),s1.2.2))else .error (.inr (s1.1,s1.2.1,s1.2.2)))
def zq (a0:(List UInt8)) (a1:Int):((List (List UInt8))×(List UInt8)):=
 (match y3 (y6j a0 a1) (((a0.length-((0:Int))).toNat)+1) (0,0,([]:List (List UInt8)))with|.error (.inl e)=>e|.error (.inr s1)=>(s1.2.2,(a0.take a0.length).drop ((s1.1).toNat))|.ok _=>default)
namespace N251
theorem DD:DOk Tryz.prog (Go.Ab.DD []):=yc _
theorem den (a0:(List UInt8)) (a1:Int) (hb0:a0.length<1099511627776) (hp0:a0.length≤1048576) (hp1:a1≤64):Den Tryz.prog 251 [.str a0,.int .i64 a1] (.tup [ownL 9 1 eS ((zq a0 a1).1),.str ((zq a0 a1).2)]):=by
 generalize hR:zq a0 a1=r
 unfold zq at hR
 refine di Tryz.func251 Tryz.ntmps251 Tryz.results251 ?_
 intro c hL hc hk
 obtain⟨hL0,hL1,_⟩:=hL
 have hw0:a0.length<9223372036854775808:=Nat.lt_succ_of_le hL0
 clear hL0 hL1
 simp only[pars,Nat.zero_add]
 iterate 4 refine rS ?_
 refine AWP.block ?_
 generalize hz1:y3 (y6j a0 a1) (((a0.length-((0:Int))).toNat)+1) (0,0,([]:List (List UInt8)))=z1 at hR
 refine AWP.whileW (y6j a0 a1) (fun s1=>⟨[(0,.str a0),(1,.int .i64 a1),(6,.ref 0 1 0 s1.2.2.length),(7,.int .i64 s1.1),(8,.int .i64 s1.2.1)],[.arr 9 1 s1.2.2.length (fun j=>eS (s1.2.2.getD j default))]⟩) (fun s1=>0≤s1.1∧s1.1≤s1.2.1∧s1.2.1≤a0.length∧s1.2.2.length≤64) (fun s1=>(a0.length-(s1.2.1)).toNat) (((a0.length-((0:Int))).toNat)+1) (0,0,([]:List (List UInt8))) [0] hz1 m0 wt sm ?_
 clear hz1
 intro s1 k1 hW1 hm1 hz1
 simp only[y6j]at hz1
 refine rS ?_
 refine AWP.cond rfl (fun hb => ?_) (fun hb => ?_)
 ·simp only[hb,cond_true]at hz1
  refine rS ?_
  refine AWP.cond rfl (fun hb => ?_) (fun hb => ?_)
  ·simp only[hb,cond_true]at hz1
   iterate 3 refine rS ?_
   exact⟨_,[2],ms,wt,hz1,sm⟩
  ·simp only[hb,cond_false]at hz1
   refine rS ?_
   exact⟨_,[0],ms,wt,hz1,sm⟩
 ·simp only[hb,cond_false]at hz1
  refine AWP.exit ?_
  refine yb ?_
  subst hz1;dsimp only at hR
  refine AWP.seq ?_
  refine AWP.regP mixed G_ok DD hc 5 [0,1,2,3] (.alt 4 [] [1,2,3] .leaf .stop) (by kernel_rfl) (by kernel_rfl) (by kernel_rfl) (fun K hK => ?_);simp only[y4f,runN,runP,yub,nthO,ea,absV,absVL,cput,gv,sv,dn,reduceCtorEq,reduceIte,Nat.reduceBEq,Nat.reduceAdd,Nat.reduceEqDiff,Nat.reduceLT,Nat.reduceLeDiff,Nat.reduceMul,Nat.reduceSub,BEq.rfl,beq_self_eq_true,Int.reduceToNat]
  repeat' apply And.intro
  all_goals first|refine hK _ ?_|exact ot
  all_goals clear hK K
  refine AWP.ret ?_
  subst hR
  exact es
end N251
def D_zq : DF
 | [x0,x1]=>some (.tup [ownL 9 1 eS ((zq (rdS x0) (rdI x1)).1),.str ((zq (rdS x0) (rdI x1)).2)],false,[wS x0,wI .i64 x1,(rdS x0).length<1099511627776,(rdS x0).length≤1048576,(rdI x1)≤64])
 | _=>none
theorem yobb:OkD Tryz.prog 251 D_zq:=by unfold D_zq;exact dk N251.den
end Go.Ab

namespace Go.Ab
open Go Go.Proofs
theorem y7e {ρ σ:Type} {b:σ→Except ρ σ} {s t:σ} {k:Nat} (h:b s=.ok t):y3 b (k+1) s=y3 b k t:=by
 simp only[y3,h]
theorem yan {ρ σ:Type} {b:σ→Except ρ σ} {s:σ} {e:ρ} {k:Nat} (h:b s=.error e):y3 b (k+1) s=.error e:=by
 simp only[y3,h]
theorem y1v (s:List UInt8) (hs:s.length≤1048576):∀ (n fr i:Nat) (out:List (List UInt8)),i+n=s.length→fr≤i→out.length≤3→(32:UInt8)∉(s.take i).drop fr →
  ∃ fr' i':Int,y3 (y6j s 3) (n+1) ((fr:Int),(i:Int),out)=.error (.inr (fr',i',out++(cutK 32 (3-out.length) (s.drop fr)).1))∧s.drop fr'.toNat=(cutK 32 (3-out.length) (s.drop fr)).2:=by
 intro n
 induction n with
 | zero=>
  intro fr i out h1 h2 h3 h4
  have hb:y6j s 3 ((fr:Int),(i:Int),out)=.error (.inr ((fr:Int),(i:Int),out)):=by
   unfold y6j
   simp only
   rw[decide_eq_false (show ¬ (i:Int)<(s.length:Int)by omega)]
   rfl
  refine⟨fr,i,?_⟩
  rw[List.take_of_length_le (by omega)]at h4
  rw[yan hb,y1d 32 _ _ h4]
  simp
 | succ n ih=>
  intro fr i out h1 h2 h3 h4
  by_cases ho:out.length=3
  ·have hb:y6j s 3 ((fr:Int),(i:Int),out)=.error (.inr ((fr:Int),(i:Int),out)):=by
    unfold y6j
    simp only
    rw[decide_eq_false (show ¬ (out.length:Int)<3 by omega),Bool.and_false]
    rfl
   refine⟨fr,i,?_⟩
   rw[yan hb,ho,ygj]
   simp
  ·have hi:i<s.length:=by omega
   have hg:s.getD (i:Int).toNat 0=s[i]:=by rw[Int.toNat_natCast,List.getD_eq_getElem?_getD,List.getElem?_eq_getElem hi];rfl
   have hw:IntKind.wrap .i64 ((i:Int)+1)=((i+1:Nat):Int):=by rw[IntKind.wrap_i64];omega
   have ht:s.take (i+1)=s.take i++[s[i]]:=by rw[List.take_succ_eq_append_getElem hi]
   have hd:s.drop fr=(s.take i).drop fr++s[i]::s.drop (i+1):=by
    conv=>lhs;rw[← List.take_append_drop i s]
    rw[List.drop_append_of_le_length (by rw[List.length_take];omega),List.drop_eq_getElem_cons hi]
   by_cases hc:s[i]=32
   ·have hb:y6j s 3 ((fr:Int),(i:Int),out)=.ok (((i+1:Nat):Int),((i+1:Nat):Int),out++[(s.take i).drop fr]):=by
     unfold y6j
     simp only
     rw[decide_eq_true (show(i:Int)<(s.length:Int)by omega),decide_eq_true (show(out.length:Int)<3 by omega),hg,hc,hw]
     simp
    obtain⟨fr',i',e1,e2⟩:=ih (i+1) (i+1) (out++[(s.take i).drop fr]) (by omega) (by omega) (by rw[List.length_append,List.length_singleton];omega) (by rw[List.drop_eq_nil_of_le (by rw[List.length_take];omega)];simp)
    rw[List.length_append,List.length_singleton]at e1 e2
    have hk:3-out.length=(3-(out.length+1))+1:=by omega
    refine⟨fr',i',?_⟩
    rw[y7e hb,e1,e2,hd,hc,hk,yde 32 _ _ _ h4]
    simp
   ·have hb:y6j s 3 ((fr:Int),(i:Int),out)=.ok ((fr:Int),((i+1:Nat):Int),out):=by
     unfold y6j
     simp only
     rw[decide_eq_true (show(i:Int)<(s.length:Int)by omega),decide_eq_true (show(out.length:Int)<3 by omega),hg,hw]
     have hne:((s[i].toNat:Int) == 32)=false:=by
      rw[beq_eq_false_iff_ne]
      intro e
      apply hc
      have h32:s[i].toNat=32:=by omega
      exact UInt8.toNat_inj.1 h32
     rw[hne]
     rfl
    obtain⟨fr',i',e1,e2⟩:=ih fr (i+1) out (by omega) (by omega) h3 (by
     rw[ht,List.drop_append_of_le_length (by rw[List.length_take];omega)]
     simp only[List.mem_append,List.mem_singleton,not_or]
     exact⟨h4,fun e=>hc e.symm⟩)
    exact⟨fr',i',by rw[y7e hb];exact e1,e2⟩
theorem yul (s:List UInt8) (hs:s.length≤1048576):zq s 3=cutK 32 3 s:=by
 obtain⟨fr',i',e1,e2⟩:=y1v s hs s.length 0 0 [] (by omega) (by omega) (by simp) (by simp)
 unfold zq
 have hn:(((s.length:Int)-((0:Int))).toNat)+1=s.length+1:=by omega
 rw[hn]
 rw[show((0:Nat):Int)=0 from rfl]at e1
 rw[e1]
 simp only
 rw[List.take_of_length_le (Nat.le_refl _),e2]
 simp
theorem yo0 (s:List UInt8) (hs:s.length≤1048576):(∀ i:Nat,((zq s 3).1.getD i default).length≤1048576)∧(zq s 3).2.length≤1048576∧(zq s 3).1.length≤3:=by
 rw[yul s hs]
 obtain⟨h1,h2,h3⟩:=ygl 32 3 s
 refine⟨fun i => ?_,by omega,h1⟩
 rw[List.getD_eq_getElem?_getD]
 cases hg:(cutK 32 3 s).1[i]? with
 | none=>exact Nat.zero_le _
 | some x=>have:=h3 x (List.mem_of_getElem? hg);show x.length≤_;omega
end Go.Ab

namespace Go.Ab
open Go Go.Proofs
def zqe  : (List (List UInt8)):=
 [[],[110,101,119],[99,104,97,110,103,101],[100,114,111,112],[99,97,110,99,101,108]]
namespace N226
theorem DD:DOk Tryz.prog (Go.Ab.DD []):=yc _
theorem lx {p:Prop} (h:p:=by(exact lxx);first|done|fail):p:=h
theorem den   : Den Tryz.prog 226 [] (ownL 9 1 eS (zqe)):=by
 generalize hR:zqe=r
 unfold zqe at hR
 refine di Tryz.func226 Tryz.ntmps226 Tryz.results226 ?_
 intro c hL hc hk
 clear hL
 simp only[pars,Nat.zero_add]
 iterate 2 refine rS ?_
 refine AWP.ret ?_
 subst hR
 exact es
end N226
def D_zqe : DF
 | []=>some (ownL 9 1 eS zqe,false,[])
 | _=>none
theorem y26:OkD Tryz.prog 226 D_zqe:=by unfold D_zqe;exact dk N226.den
end Go.Ab
