/- A part of a proof: walks of functions and lemmas of our own. No conditions. -/
import Derived.Test.YtopoomikfjodkaaGreatDoorRAl
import Derived.Test.YtopoomikfjodkaaGreatDoorRAw
import Derived.Test.YtopoomikfjodkaaGreatDoorRAq
import Derived.Test.YtopoomikfjodkaaGreatDoorRAv
set_option linter.unusedSectionVars false
set_option linter.unusedVariables false
set_option linter.unusedSimpArgs false
set_option maxHeartbeats 1000000
namespace Go.Ab
open Go Go.Proofs
def yfy (a0:(List UInt8)) (s1:Int):Except (Sum ((Int×Bool)) (Int)) (Int):=
 (bif decide (s1≤9)then(bif ((zic s1) == a0)then .error (.inl (s1,true))else .ok (IntKind.wrap .i64 (s1+1)))else .error (.inr s1))
def zec (a0:(List UInt8)):(Int×Bool):=
 (match y3 (yfy a0) (((10-(0:Int)).toNat)+1) 0 with|.error (.inl e)=>e|.error (.inr s1)=>(0,false)|.ok _=>default)
namespace N21
theorem DD:DOk Tryz.prog (Go.Ab.DD [(22,dP D_zic)]):=ya yoi.e <| yc _
theorem dn:type_of% (@D_zic.eq_1):=by and_intros<;>intros<;>rfl
theorem den (a0:(List UInt8))  : Den Tryz.prog 21 [.str a0] (.tup [.int .i64 ((zec a0).1),.bool ((zec a0).2)]):=by
 generalize hR:zec a0=r
 unfold zec at hR
 refine di Tryz.func21 Tryz.ntmps21 Tryz.results21 ?_
 intro c hL hc hk
 obtain⟨hL0,_⟩:=hL
 have hw0:a0.length<9223372036854775808:=Nat.lt_succ_of_le hL0
 clear hL0
 simp only[pars,Nat.zero_add]
 iterate 2 refine rS ?_
 refine AWP.block ?_
 generalize hz1:y3 (yfy a0) (((10-(0:Int)).toNat)+1) 0=z1 at hR
 refine AWP.whileW (yfy a0) (fun s1=>⟨[(0,.str a0),(4,.int .i64 s1)],[]⟩) (fun s1=>0≤s1∧s1≤10) (fun s1=>(10-s1).toNat) (((10-(0:Int)).toNat)+1) 0 [] hz1 m0 wt sm ?_
 clear hz1
 intro s1 k1 hW1 hm1 hz1
 simp only[yfy]at hz1
 refine rS ?_
 refine AWP.cond rfl (fun hb => ?_) (fun hb => ?_)
 ·simp only[hb,cond_true]at hz1
  refine rS ?_
  refine AWP.cond rfl (fun hb => ?_) (fun hb => ?_)
  ·simp only[hb,cond_true]at hz1
   refine rS ?_
   refine AWP.ret ?_
   subst hz1
   dsimp only at hR
   subst hR
   exact es
  ·simp only[hb,cond_false]at hz1
   refine rS ?_
   exact⟨_,[],ms,wt,hz1,sm⟩
 ·simp only[hb,cond_false]at hz1
  refine AWP.exit ?_
  refine yb ?_
  subst hz1;dsimp only at hR
  refine rS ?_
  refine AWP.ret ?_
  subst hR
  exact es
end N21
def D_zec : DF
 | [x0]=>some (.tup [.int .i64 ((zec (rdS x0)).1),.bool ((zec (rdS x0)).2)],false,[wS x0])
 | _=>none
theorem yvp:OkD Tryz.prog 21 D_zec:=by unfold D_zec;exact dk N21.den
end Go.Ab

namespace Go.Ab
open Go Go.Proofs
def CBd (r:Character×Bool):Prop:=r.1.Group.length≤1048577∧r.1.Letter.length≤1048577∧r.1.Colors.length≤0
theorem cbd0 (b:Bool):CBd ({ Kind:=0,Group:=[],Letter:=[],Colors:=[],Period:=0:Character },b):=⟨by simp,by simp,by simp⟩
theorem yz8 (n : Nat) (hn : n ≤ 1048577) (b : Nat → List Int → Except (Character × Bool) (List Int)) (hb : ∀ i s, (∃ x, b i s = .ok (s ++ [x])) ∨ ∃ e, b i s = .error e ∧ CBd e) (f : List Int → Character × Bool)
  (hf:∀ s,s.length≤1048577→CBd (f s)):CBd (match ye b (n-0) 0 ([]:List Int)with|.error e=>e|.ok s=>f s):=by
 cases h:ye b (n-0) 0 ([]:List Int)with
 | error e=>
  obtain⟨j,t,_,_,h3⟩:=ykf h
  rcases hb j t with⟨x,hx⟩|⟨e',he,hc⟩
  ·rw[hx]at h3;cases h3
  ·rw[he]at h3;cases h3;exact hc
 | ok s=>
  have hk:=y4g (fun i s=>s.length≤i) h (by simp) (fun j u v _ _ hu hv=>by
   rcases hb j u with⟨x,hx⟩|⟨e',he,hc⟩
   ·rw[hx]at hv
    simp only[Except.ok.injEq]at hv
    subst hv
    simp only[List.length_append,List.length_singleton];omega
   ·rw[he]at hv;cases hv)
  exact hf s (by omega)
theorem yru (a:List UInt8) (ha:a.length≤1048576):CBd (zm a):=by
  have c1:=ylr a [43,76,70,108]
  have c2:=yqg (zh a [43,76,70,108]).1 [40]
  have c3:=ylr (zd (zh a [43,76,70,108]).1 [40]).2.1 [41]
  have c4:=(yrr (zh (zd (zh a [43,76,70,108]).1 [40]).2.1 [41]).1 [43] (by omega)).1
  have hw:∀ (b:Int×Int→Except (Sum (Character×Bool) (Int×Int)) (Int×Int)) (n:Nat) (s:Int×Int) (f:Int×Int→Character×Bool),(∀ s,match b s with|.error (.inl e)=>False|_=>True)→(∀ s,CBd (f s))→CBd (default:Character×Bool) →
      CBd (match y3 b n s with|.error (.inl e)=>e|.error (.inr s)=>f s|.ok _=>default):=by
    intro b n s f hb hf hd
    have h:=ykm (body:=b) (I:=fun _=>True) (Q:=fun r=>match r with|.inl e=>False|.inr _=>True) (fun s _=>by
      have:=hb s
      cases hbs:b s with
      | error r => rw [hbs] at this; cases r with
        | inl e=>exact this
        | inr t=>trivial
      | ok t=>trivial) n s trivial
    cases hl:y3 b n s with
    | error r=>
      rw[hl]at h
      cases r with
      | inl e=>exact h.elim
      | inr t=>exact hf t
    | ok t=>exact hd
  have hdef:CBd (default:Character×Bool):=⟨by show(0:Nat)≤_;omega,by show(0:Nat)≤_;omega,by show(0:Nat)≤_;omega⟩
  unfold zm
  cases(zh a [43,76,70,108]).2 with
  | true=>
    simp only[cond_true]
    refine hw _ _ _ _ (fun s => ?_) (fun s => ?_) hdef
    · unfold ydu
      cases decide (s.1≤8)with
      | false=>trivial
      | true=>
        simp only[cond_true]
        cases((zdd s.1) == ((zd ((zh a [43,76,70,108]).1) [40]).1))with
        | true=>trivial
        | false=>trivial
    · cases(!((zd ((zh a [43,76,70,108]).1) [40]).2.2))with
      | true=>exact⟨by simp,by simp,by simp⟩
      | false=>
        simp only[cond_false]
        cases(s.2 == 8)with
        | true=>exact⟨by simp,by simp only[cond_true];omega,by simp⟩
        | false=>
          simp only[cond_false]
          refine yz8 _ c4 _ (fun i t => ?_) (fun t=>({ Kind:=s.2,Group:=t,Letter:=[76],Colors:=[],Period:=0:Character },_)) (fun t ht=>⟨ht,by simp,by simp⟩)
          unfold y3u
          cases(!((zj ((zb ((zh ((zd ((zh a [43,76,70,108]).1) [40]).2.1) [41]).1) [43]).getD i default)).2))with
          | true=>exact .inr ⟨_,rfl,cbd0 _⟩
          | false=>exact .inl ⟨_,rfl⟩
  | false=>
    simp only[cond_false]
    refine hw _ _ _ _ (fun s => ?_) (fun s => ?_) hdef
    · unfold y3m
      cases decide (s.1≤8)with
      | false=>trivial
      | true=>
        simp only[cond_true]
        cases((zdd s.1) == ((zd ((zh a [43,76,70,108]).1) [40]).1))with
        | true=>trivial
        | false=>trivial
    · cases(!((zd ((zh a [43,76,70,108]).1) [40]).2.2))with
      | true=>exact⟨by simp,by simp,by simp⟩
      | false=>
        simp only[cond_false]
        cases(s.2 == 8)with
        | true=>exact⟨by simp,by simp only[cond_true];omega,by simp⟩
        | false=>
          simp only[cond_false]
          refine yz8 _ c4 _ (fun i t => ?_) (fun t=>({ Kind:=s.2,Group:=t,Letter:=[],Colors:=[],Period:=0:Character },_)) (fun t ht=>⟨ht,by simp,by simp⟩)
          unfold y9v
          cases(!((zj ((zb ((zh ((zd ((zh a [43,76,70,108]).1) [40]).2.1) [41]).1) [43]).getD i default)).2))with
          | true=>exact .inr ⟨_,rfl,cbd0 _⟩
          | false=>exact .inl ⟨_,rfl⟩
end Go.Ab
