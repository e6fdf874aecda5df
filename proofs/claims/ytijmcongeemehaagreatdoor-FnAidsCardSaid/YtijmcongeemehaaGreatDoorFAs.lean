/- A part of a proof: walks of functions and lemmas of our own. No conditions. -/
import Derived.Test.YtijmcongeemehaaGreatDoorFAl
import Derived.Test.YtijmcongeemehaaGreatDoorFAp
import Derived.Test.YtijmcongeemehaaGreatDoorFAq
import Derived.Test.YtijmcongeemehaaGreatDoorFAr
import Derived.Test.YtijmcongeemehaaGreatDoorFAo
set_option linter.unusedSectionVars false
set_option linter.unusedVariables false
set_option linter.unusedSimpArgs false
set_option maxHeartbeats 1000000
namespace Go.Ab
open Go Go.Proofs
def yqs (a0:(List UInt8)) (s1:Int×Int):Except (Sum ((Character×Bool)) (Int×Int)) (Int×Int):=
 (bif decide (s1.1<=8)then(bif ((zqc s1.1) == ((zd ((zi a0 [43,76,70,108]).1) [40]).1))then .ok (IntKind.wrap .i64 (s1.1+1),s1.1)else .ok (IntKind.wrap .i64 (s1.1+1),s1.2))else .error (.inr (s1.1,s1.2)))
def yts (a0:(List UInt8)) (s1:Int×Int) (i2:Nat) (s2:List Int):Except ((Character×Bool)) (List Int):=
 (bif (!((zp ((zg ((zi ((zd ((zi a0 [43,76,70,108]).1) [40]).2.1) [41]).1) [43]).getD i2 default)).2))then .error ({ Kind:=0,Group:=[],Letter:=[],Colors:=[],Period:=0:Character },false)else .ok (s2++([(zp ((zg ((zi ((zd ((zi a0 [43,76,70,108]).1) [40]).2.1) [41]).1) [43]).getD i2 default)).1]:List Int)))
def ytk (a0:(List UInt8)) (s3:Int×Int):Except (Sum ((Character×Bool)) (Int×Int)) (Int×Int):=
 (bif decide (s3.1<=8)then(bif ((zqc s3.1) == ((zd ((zi a0 [43,76,70,108]).1) [40]).1))then .ok (IntKind.wrap .i64 (s3.1+1),s3.1)else .ok (IntKind.wrap .i64 (s3.1+1),s3.2))else .error (.inr (s3.1,s3.2)))
def yps (a0:(List UInt8)) (s3:Int×Int) (i4:Nat) (s4:List Int):Except ((Character×Bool)) (List Int):=
 (bif (!((zp ((zg ((zi ((zd ((zi a0 [43,76,70,108]).1) [40]).2.1) [41]).1) [43]).getD i4 default)).2))then .error ({ Kind:=0,Group:=[],Letter:=[],Colors:=[],Period:=0:Character },false)else .ok (s4++([(zp ((zg ((zi ((zd ((zi a0 [43,76,70,108]).1) [40]).2.1) [41]).1) [43]).getD i4 default)).1]:List Int)))
def zo (a0:(List UInt8)):(Character×Bool):=
 (bif (zi a0 [43,76,70,108]).2 then(match y0 (yqs a0) (((9-(1:Int)).toNat)+1) (1,0)with|.error (.inl e)=>e|.error (.inr s1)=>(bif (!((zd ((zi a0 [43,76,70,108]).1) [40]).2.2))then({ Kind:=s1.2,Group:=[],Letter:=[76],Colors:=[],Period:=0:Character },true)else(bif (s1.2 == 8)then({ Kind:=s1.2,Group:=[],Letter:=(zi ((zd ((zi a0 [43,76,70,108]).1) [40]).2.1) [41]).1,Colors:=[],Period:=0:Character },((zi ((zd ((zi a0 [43,76,70,108]).1) [40]).2.1) [41]).2 && (!((zi a0 [43,76,70,108]).2))))else(match yf (yts a0 s1) (((zg ((zi ((zd ((zi a0 [43,76,70,108]).1) [40]).2.1) [41]).1) [43]).length)-0) 0 ([]:List Int)with|.error e=>e|.ok s2=>({ Kind:=s1.2,Group:=s2,Letter:=[76],Colors:=[],Period:=0:Character },(zi ((zd ((zi a0 [43,76,70,108]).1) [40]).2.1) [41]).2))))|.ok _=>default)else(match y0 (ytk a0) (((9-(1:Int)).toNat)+1) (1,0)with|.error (.inl e)=>e|.error (.inr s3)=>(bif (!((zd ((zi a0 [43,76,70,108]).1) [40]).2.2))then({ Kind:=s3.2,Group:=[],Letter:=[],Colors:=[],Period:=0:Character },true)else(bif (s3.2 == 8)then({ Kind:=s3.2,Group:=[],Letter:=(zi ((zd ((zi a0 [43,76,70,108]).1) [40]).2.1) [41]).1,Colors:=[],Period:=0:Character },((zi ((zd ((zi a0 [43,76,70,108]).1) [40]).2.1) [41]).2 && (!((zi a0 [43,76,70,108]).2))))else(match yf (yps a0 s3) (((zg ((zi ((zd ((zi a0 [43,76,70,108]).1) [40]).2.1) [41]).1) [43]).length)-0) 0 ([]:List Int)with|.error e=>e|.ok s4=>({ Kind:=s3.2,Group:=s4,Letter:=[],Colors:=[],Period:=0:Character },(zi ((zd ((zi a0 [43,76,70,108]).1) [40]).2.1) [41]).2))))|.ok _=>default))
namespace N167
theorem DD:DOk Tryz.prog (Go.Ab.DD [(164,dP D_zd),(223,dP D_zqc),(243,dP D_zi),(80,dP D_zg),(81,dP D_zp)]):=ya yhk.e <| ya yvt.e <| ya yq5.e <| ya ygo.e <| ya y3j.e <| ye _
theorem dn:type_of% (And.intro @D_zd.eq_1 <| And.intro @D_zqc.eq_1 <| And.intro @D_zi.eq_1 <| And.intro @D_zg.eq_1 <| @D_zp.eq_1):=by and_intros<;>intros<;>rfl
theorem gr {p:Prop} (h:p:=by(grind [yze,yhq]);first|done|fail):p:=h
theorem o0 {p:Prop} (h:p:=by(first|(and_intros<;>(first|omega|rfl|exact ypf c4 _)));first|done|fail):p:=h
theorem o2 {p:Prop} (h:p:=by(first|(and_intros<;>first|omega|(rw[IntKind.wrap_i64];omega)|(simp;(first|done|fail))|(intro i hi;exact yfh _ _ i hi)|(intro i hi;rw[yfh _ _ i hi];exact y3 _)|decide));first|done|fail):p:=h
set_option maxHeartbeats 2000000 in
set_option maxRecDepth 20000 in
theorem den (a0:(List UInt8)) (hb0:a0.length<1099511627776) (hp0:a0.length<=1048576):Den Tryz.prog 167 [.str a0] (.tup [.agg (yrb ((zo a0).1)),.bool ((zo a0).2)]):=by
 generalize hR:zo a0=r;unfold zo at hR;refine di Tryz.func167 Tryz.ntmps167 Tryz.results167 ?_;intro c hL hc hk;obtain⟨hL0,_⟩:=hL;have hw0:a0.length<9223372036854775808:=Nat.lt_succ_of_le hL0;clear hL0;simp only[pars,Nat.zero_add];have c1:=yhq a0 [43,76,70,108];have c2:=yze (zi a0 [43,76,70,108]).1 [40];have c3:=yhq (zd (zi a0 [43,76,70,108]).1 [40]).2.1 [41];have c4:=(yfu (zi (zd (zi a0 [43,76,70,108]).1 [40]).2.1 [41]).1 [43] (by omega)).2;have c5:=(yfu (zi (zd (zi a0 [43,76,70,108]).1 [40]).2.1 [41]).1 [43] (by omega)).1;iterate 4 refine rS ?_
 refine AWP.cond rfl (fun hb => ?_) (fun hb => ?_)
 ·replace hR:=ct hR
  iterate 3 refine rS ?_
  refine AWP.block ?_;generalize hz1:y0 (yqs a0) (((9-(1:Int)).toNat)+1) (1,0)=z1 at hR;refine AWP.whileW (yqs a0) (fun s1=>⟨[(2,.ptr 0 0),(4,.ptr 1 0),(6,.bool ((zi a0 [43,76,70,108]).2)),(7,.str ((zd ((zi a0 [43,76,70,108]).1) [40]).1)),(8,.str ((zd ((zi a0 [43,76,70,108]).1) [40]).2.1)),(9,.bool ((zd ((zi a0 [43,76,70,108]).1) [40]).2.2)),(10,.int .i64 s1.1)],[.box [.int .i64 0,.nils,.str [],.str [],.int .i64 0],.box [.int .i64 s1.2,.nils,.str [76],.str [],.int .i64 0]]⟩) (fun s1=>1<=s1.1/\s1.1<=9) (fun s1=>(9-s1.1).toNat) (((9-(1:Int)).toNat)+1) (1,0) [0,1] hz1 m0 wt sm ?_;clear hz1;intro s1 k1 hW1 hm1 hz1;simp only[yqs]at hz1;refine rS ?_;refine AWP.cond rfl (fun hb => ?_) (fun hb => ?_)
  ·simp only[hb,cond_true]at hz1
   refine rS ?_;refine AWP.cond rfl (fun hb => ?_) (fun hb => ?_)
   ·simp only[hb,cond_true]at hz1
    iterate 2 refine rS ?_
    exact⟨_,[0,1],ms,wt,hz1,sm⟩
   ·simp only[hb,cond_false]at hz1
    refine rS ?_;exact⟨_,[0,1],ms,wt,hz1,sm⟩
  ·simp only[hb,cond_false]at hz1
   refine AWP.exit ?_;refine yb ?_;subst hz1;dsimp only at hR;refine rS ?_;refine AWP.cond rfl (fun hb => ?_) (fun hb => ?_)
   ·replace hR:=ct hR
    refine rS ?_;refine AWP.ret ?_;subst hR;exact es
   ·replace hR:=cf hR
    iterate 2 refine rS ?_
    refine AWP.cond rfl (fun hb => ?_) (fun hb => ?_)
    ·replace hR:=ct hR
     iterate 2 refine rS ?_
     refine AWP.ret ?_;subst hR;exact es
    ·replace hR:=cf hR
     refine rS ?_;refine AWP.block ?_;refine AWP.nilB 1 1 2 1 (fun _=>[]) rfl rfl ?_;try simp only[ea,absV,absVL,cput,gv,sv,dn,reduceCtorEq,reduceIte,Nat.reduceBEq,Nat.reduceAdd,Nat.reduceEqDiff,Nat.reduceLT,Nat.reduceLeDiff,Nat.reduceMul,Nat.reduceSub,BEq.rfl,beq_self_eq_true,Int.reduceToNat];generalize hz2:yf (yts a0 (s1.1,s1.2)) (((zg ((zi ((zd ((zi a0 [43,76,70,108]).1) [40]).2.1) [41]).1) [43]).length)-0) 0 ([]:List Int)=z2 at hR;refine AWP.range (yts a0 (s1.1,s1.2)) (fun i2 s2=>⟨[(2,.ptr 0 0),(4,.ptr 1 0),(12,.bool ((zi ((zd ((zi a0 [43,76,70,108]).1) [40]).2.1) [41]).2)),(61,.ref 3 1 0 ((zg ((zi ((zd ((zi a0 [43,76,70,108]).1) [40]).2.1) [41]).1) [43]).length)),(62,.int .i64 ((zg ((zi ((zd ((zi a0 [43,76,70,108]).1) [40]).2.1) [41]).1) [43]).length:Int)),(63,.int .i64 (i2:Int))],[.box [.int .i64 0,.nils,.str [],.str [],.int .i64 0],.box [.int .i64 s1.2,.ref 2 1 0 s2.length,.str [76],.str [],.int .i64 0],.arr 2 1 s2.length (fun j=>yw (s2.getD j default)),.arr 9 1 (zg ((zi ((zd ((zi a0 [43,76,70,108]).1) [40]).2.1) [41]).1) [43]).length (fun j=>eS ((zg ((zi ((zd ((zi a0 [43,76,70,108]).1) [40]).2.1) [41]).1) [43]).getD j default))]⟩) (fun i2 s2=>s2.length<=i2) (((zg ((zi ((zd ((zi a0 [43,76,70,108]).1) [40]).2.1) [41]).1) [43]).length)) 0 ([]:List Int) [0,1,3,2] hz2 ot wt sm ?_;clear hz2;intro i2 s2 hi2 hW2 hz2;refine rS ?_;refine AWP.seq ?_;refine AWP.cond rfl (fun hb => ?_) (fun hb => ?_)
     ·have hlt2:i2<((zg ((zi ((zd ((zi a0 [43,76,70,108]).1) [40]).2.1) [41]).1) [43]).length):=ot
      rw[yp hlt2]at hz2;simp only[yts]at hz2;iterate 3 refine rS ?_
      refine AWP.cond rfl (fun hb => ?_) (fun hb => ?_)
      ·simp only[hb,cond_true]at hz2
       refine rS ?_;refine AWP.ret ?_;subst hz2;dsimp only at hR;subst hR;exact es
      ·simp only[hb,cond_false]at hz2
       iterate 2 refine rS ?_
       exact⟨_,[0,1,5,3],hlt2,wt,hz2,sm⟩
     ·obtain rfl:i2=((zg ((zi ((zd ((zi a0 [43,76,70,108]).1) [40]).2.1) [41]).1) [43]).length):=ot
      rw[yq (Nat.le_refl _)]at hz2;subst hz2;dsimp only at hR;refine AWP.exit ?_;refine yb ?_;refine rS ?_;refine AWP.ret ?_;subst hR;exact es
 ·replace hR:=cf hR
  iterate 2 refine rS ?_
  refine AWP.block ?_;generalize hz3:y0 (ytk a0) (((9-(1:Int)).toNat)+1) (1,0)=z3 at hR;refine AWP.whileW (ytk a0) (fun s3=>⟨[(2,.ptr 0 0),(4,.ptr 1 0),(6,.bool ((zi a0 [43,76,70,108]).2)),(7,.str ((zd ((zi a0 [43,76,70,108]).1) [40]).1)),(8,.str ((zd ((zi a0 [43,76,70,108]).1) [40]).2.1)),(9,.bool ((zd ((zi a0 [43,76,70,108]).1) [40]).2.2)),(10,.int .i64 s3.1)],[.box [.int .i64 0,.nils,.str [],.str [],.int .i64 0],.box [.int .i64 s3.2,.nils,.str [],.str [],.int .i64 0]]⟩) (fun s3=>1<=s3.1/\s3.1<=9) (fun s3=>(9-s3.1).toNat) (((9-(1:Int)).toNat)+1) (1,0) [0,1] hz3 m0 wt sm ?_;clear hz3;intro s3 k3 hW3 hm3 hz3;simp only[ytk]at hz3;refine rS ?_;refine AWP.cond rfl (fun hb => ?_) (fun hb => ?_)
  ·simp only[hb,cond_true]at hz3
   refine rS ?_;refine AWP.cond rfl (fun hb => ?_) (fun hb => ?_)
   ·simp only[hb,cond_true]at hz3
    iterate 2 refine rS ?_
    exact⟨_,[0,1],ms,wt,hz3,sm⟩
   ·simp only[hb,cond_false]at hz3
    refine rS ?_;exact⟨_,[0,1],ms,wt,hz3,sm⟩
  ·simp only[hb,cond_false]at hz3
   refine AWP.exit ?_;refine yb ?_;subst hz3;dsimp only at hR;refine rS ?_;refine AWP.cond rfl (fun hb => ?_) (fun hb => ?_)
   ·replace hR:=ct hR
    refine rS ?_;refine AWP.ret ?_;subst hR;exact es
   ·replace hR:=cf hR
    iterate 2 refine rS ?_
    refine AWP.cond rfl (fun hb => ?_) (fun hb => ?_)
    ·replace hR:=ct hR
     iterate 2 refine rS ?_
     refine AWP.ret ?_;subst hR;exact es
    ·replace hR:=cf hR
     refine rS ?_;refine AWP.block ?_;refine AWP.nilB 1 1 2 1 (fun _=>[]) rfl rfl ?_;try simp only[ea,absV,absVL,cput,gv,sv,dn,reduceCtorEq,reduceIte,Nat.reduceBEq,Nat.reduceAdd,Nat.reduceEqDiff,Nat.reduceLT,Nat.reduceLeDiff,Nat.reduceMul,Nat.reduceSub,BEq.rfl,beq_self_eq_true,Int.reduceToNat];generalize hz4:yf (yps a0 (s3.1,s3.2)) (((zg ((zi ((zd ((zi a0 [43,76,70,108]).1) [40]).2.1) [41]).1) [43]).length)-0) 0 ([]:List Int)=z4 at hR;refine AWP.range (yps a0 (s3.1,s3.2)) (fun i4 s4=>⟨[(2,.ptr 0 0),(4,.ptr 1 0),(12,.bool ((zi ((zd ((zi a0 [43,76,70,108]).1) [40]).2.1) [41]).2)),(61,.ref 3 1 0 ((zg ((zi ((zd ((zi a0 [43,76,70,108]).1) [40]).2.1) [41]).1) [43]).length)),(62,.int .i64 ((zg ((zi ((zd ((zi a0 [43,76,70,108]).1) [40]).2.1) [41]).1) [43]).length:Int)),(63,.int .i64 (i4:Int))],[.box [.int .i64 0,.nils,.str [],.str [],.int .i64 0],.box [.int .i64 s3.2,.ref 2 1 0 s4.length,.str [],.str [],.int .i64 0],.arr 2 1 s4.length (fun j=>yw (s4.getD j default)),.arr 9 1 (zg ((zi ((zd ((zi a0 [43,76,70,108]).1) [40]).2.1) [41]).1) [43]).length (fun j=>eS ((zg ((zi ((zd ((zi a0 [43,76,70,108]).1) [40]).2.1) [41]).1) [43]).getD j default))]⟩) (fun i4 s4=>s4.length<=i4) (((zg ((zi ((zd ((zi a0 [43,76,70,108]).1) [40]).2.1) [41]).1) [43]).length)) 0 ([]:List Int) [0,1,3,2] hz4 ot wt sm ?_;clear hz4;intro i4 s4 hi4 hW4 hz4;refine rS ?_;refine AWP.seq ?_;refine AWP.cond rfl (fun hb => ?_) (fun hb => ?_)
     ·have hlt4:i4<((zg ((zi ((zd ((zi a0 [43,76,70,108]).1) [40]).2.1) [41]).1) [43]).length):=ot
      rw[yp hlt4]at hz4;simp only[yps]at hz4;iterate 3 refine rS ?_
      refine AWP.cond rfl (fun hb => ?_) (fun hb => ?_)
      ·simp only[hb,cond_true]at hz4
       refine rS ?_;refine AWP.ret ?_;subst hz4;dsimp only at hR;subst hR;exact es
      ·simp only[hb,cond_false]at hz4
       iterate 2 refine rS ?_
       exact⟨_,[0,1,5,3],hlt4,wt,hz4,sm⟩
     ·obtain rfl:i4=((zg ((zi ((zd ((zi a0 [43,76,70,108]).1) [40]).2.1) [41]).1) [43]).length):=ot
      rw[yq (Nat.le_refl _)]at hz4;subst hz4;dsimp only at hR;refine AWP.exit ?_;refine yb ?_;refine rS ?_;refine AWP.ret ?_;subst hR;exact es
end N167
def D_zo : DF
 | [x0]=>some (.tup [.agg (yrb ((zo (rdS x0)).1)),.bool ((zo (rdS x0)).2)],false,[wS x0,(rdS x0).length<1099511627776,(rdS x0).length<=1048576])
 | _=>none
theorem yd5:OkD Tryz.prog 167 D_zo:=by unfold D_zo;exact dk N167.den
theorem yi0 (k:Int) (l:List (List UInt8)) (h:0<=k) (h2:k<(l.length:Int)):zzb k l=l.getD k.toNat default:=by
 unfold zzb zcf;rw[decide_eq_true h,decide_eq_true h2];rfl
def CBd (r:Character×Bool):Prop:=r.1.Group.length<=1048577/\r.1.Letter.length<=1048577/\r.1.Colors.length<=0
theorem cbd0 (b:Bool):CBd ({ Kind:=0,Group:=[],Letter:=[],Colors:=[],Period:=0:Character },b):=⟨by simp,by simp,by simp⟩
theorem y63 (n : Nat) (hn : n <= 1048577) (b : Nat -> List Int -> Except (Character × Bool) (List Int)) (hb : ∀ i s, (∃ x, b i s = .ok (s ++ [x])) \/ ∃ e, b i s = .error e /\ CBd e) (f : List Int -> Character × Bool)
  (hf:∀ s,s.length<=1048577->CBd (f s)):CBd (match yf b (n-0) 0 ([]:List Int)with|.error e=>e|.ok s=>f s):=by
 cases h:yf b (n-0) 0 ([]:List Int)with
 | error e=>
  obtain⟨j,t,_,_,h3⟩:=ypc h;rcases hb j t with⟨x,hx⟩|⟨e',he,hc⟩
  ·rw[hx]at h3;cases h3
  ·rw[he]at h3;cases h3;exact hc
 | ok s=>
  have hk:=yde (fun i s=>s.length<=i) h (by simp) (fun j u v _ _ hu hv=>by
   rcases hb j u with⟨x,hx⟩|⟨e',he,hc⟩
   ·rw[hx]at hv
    simp only[Except.ok.injEq]at hv;subst hv;simp only[List.length_append,List.length_singleton];omega
   ·rw[he]at hv;cases hv)
  exact hf s (by omega)
theorem yzs (a:List UInt8) (ha:a.length<=1048576):CBd (zo a):=by
  have c1:=yhq a [43,76,70,108];have c2:=yze (zi a [43,76,70,108]).1 [40];have c3:=yhq (zd (zi a [43,76,70,108]).1 [40]).2.1 [41];have c4:=(yfu (zi (zd (zi a [43,76,70,108]).1 [40]).2.1 [41]).1 [43] (by omega)).1
  have hw:∀ (b:Int×Int->Except (Sum (Character×Bool) (Int×Int)) (Int×Int)) (n:Nat) (s:Int×Int) (f:Int×Int->Character×Bool),(∀ s,match b s with|.error (.inl e)=>False|_=>True)->(∀ s,CBd (f s))->CBd (default:Character×Bool) ->
      CBd (match y0 b n s with|.error (.inl e)=>e|.error (.inr s)=>f s|.ok _=>default):=by
    intro b n s f hb hf hd
    have h:=ylr (body:=b) (I:=fun _=>True) (Q:=fun r=>match r with|.inl e=>False|.inr _=>True) (fun s _=>by
      have:=hb s
      cases hbs:b s with
      | error r => rw [hbs] at this; cases r with
        | inl e=>exact this
        | inr t=>trivial
      | ok t=>trivial) n s trivial
    cases hl:y0 b n s with
    | error r=>
      rw[hl]at h
      cases r with
      | inl e=>exact h.elim
      | inr t=>exact hf t
    | ok t=>exact hd
  have hdef:CBd (default:Character×Bool):=⟨by show(0:Nat)<=_;omega,by show(0:Nat)<=_;omega,by show(0:Nat)<=_;omega⟩
  unfold zo
  cases(zi a [43,76,70,108]).2 with
  | true=>
    simp only[cond_true];refine hw _ _ _ _ (fun s => ?_) (fun s => ?_) hdef
    . unfold yqs
      cases decide (s.1<=8)with
      | false=>trivial
      | true=>
        simp only[cond_true]
        cases((zqc s.1) == ((zd ((zi a [43,76,70,108]).1) [40]).1))with
        | true=>trivial
        | false=>trivial
    . cases(!((zd ((zi a [43,76,70,108]).1) [40]).2.2))with
      | true=>exact⟨by simp,by simp,by simp⟩
      | false=>
        simp only[cond_false]
        cases(s.2 == 8)with
        | true=>exact⟨by simp,by simp only[cond_true];omega,by simp⟩
        | false=>
          simp only[cond_false];refine y63 _ c4 _ (fun i t => ?_) (fun t=>({ Kind:=s.2,Group:=t,Letter:=[76],Colors:=[],Period:=0:Character },_)) (fun t ht=>⟨ht,by simp,by simp⟩);unfold yts
          cases(!((zp ((zg ((zi ((zd ((zi a [43,76,70,108]).1) [40]).2.1) [41]).1) [43]).getD i default)).2))with
          | true=>exact .inr ⟨_,rfl,cbd0 _⟩
          | false=>exact .inl ⟨_,rfl⟩
  | false=>
    simp only[cond_false];refine hw _ _ _ _ (fun s => ?_) (fun s => ?_) hdef
    . unfold ytk
      cases decide (s.1<=8)with
      | false=>trivial
      | true=>
        simp only[cond_true]
        cases((zqc s.1) == ((zd ((zi a [43,76,70,108]).1) [40]).1))with
        | true=>trivial
        | false=>trivial
    . cases(!((zd ((zi a [43,76,70,108]).1) [40]).2.2))with
      | true=>exact⟨by simp,by simp,by simp⟩
      | false=>
        simp only[cond_false]
        cases(s.2 == 8)with
        | true=>exact⟨by simp,by simp only[cond_true];omega,by simp⟩
        | false=>
          simp only[cond_false];refine y63 _ c4 _ (fun i t => ?_) (fun t=>({ Kind:=s.2,Group:=t,Letter:=[],Colors:=[],Period:=0:Character },_)) (fun t ht=>⟨ht,by simp,by simp⟩);unfold yps
          cases(!((zp ((zg ((zi ((zd ((zi a [43,76,70,108]).1) [40]).2.1) [41]).1) [43]).getD i default)).2))with
          | true=>exact .inr ⟨_,rfl,cbd0 _⟩
          | false=>exact .inl ⟨_,rfl⟩
def y2v (a0:(List UInt8)) (s1:Int):Except (Sum ((Int×Bool)) (Int)) (Int):=
 (bif decide (s1<=9)then(bif ((zjd s1) == a0)then .error (.inl (s1,true))else .ok (IntKind.wrap .i64 (s1+1)))else .error (.inr s1))
def zed (a0:(List UInt8)):(Int×Bool):=
 (match y0 (y2v a0) (((10-(0:Int)).toNat)+1) 0 with|.error (.inl e)=>e|.error (.inr s1)=>(0,false)|.ok _=>default)
namespace N166
theorem DD:DOk Tryz.prog (Go.Ab.DD [(147,dP D_zjd)]):=ya yfn.e <| ye _
theorem dn:type_of% (@D_zjd.eq_1):=by and_intros<;>intros<;>rfl
theorem den (a0:(List UInt8))  : Den Tryz.prog 166 [.str a0] (.tup [.int .i64 ((zed a0).1),.bool ((zed a0).2)]):=by
 generalize hR:zed a0=r;unfold zed at hR;refine di Tryz.func166 Tryz.ntmps166 Tryz.results166 ?_;intro c hL hc hk;obtain⟨hL0,_⟩:=hL;have hw0:a0.length<9223372036854775808:=Nat.lt_succ_of_le hL0;clear hL0;simp only[pars,Nat.zero_add];iterate 2 refine rS ?_
 refine AWP.block ?_;generalize hz1:y0 (y2v a0) (((10-(0:Int)).toNat)+1) 0=z1 at hR;refine AWP.whileW (y2v a0) (fun s1=>⟨[(0,.str a0),(4,.int .i64 s1)],[]⟩) (fun s1=>0<=s1/\s1<=10) (fun s1=>(10-s1).toNat) (((10-(0:Int)).toNat)+1) 0 [] hz1 m0 wt sm ?_;clear hz1;intro s1 k1 hW1 hm1 hz1;simp only[y2v]at hz1;refine rS ?_;refine AWP.cond rfl (fun hb => ?_) (fun hb => ?_)
 ·simp only[hb,cond_true]at hz1
  refine rS ?_;refine AWP.cond rfl (fun hb => ?_) (fun hb => ?_)
  ·simp only[hb,cond_true]at hz1
   refine rS ?_;refine AWP.ret ?_;subst hz1;dsimp only at hR;subst hR;exact es
  ·simp only[hb,cond_false]at hz1
   refine rS ?_;exact⟨_,[],ms,wt,hz1,sm⟩
 ·simp only[hb,cond_false]at hz1
  refine AWP.exit ?_;refine yb ?_;subst hz1;dsimp only at hR;refine rS ?_;refine AWP.ret ?_;subst hR;exact es
end N166
def D_zed : DF
 | [x0]=>some (.tup [.int .i64 ((zed (rdS x0)).1),.bool ((zed (rdS x0)).2)],false,[wS x0])
 | _=>none
theorem y90:OkD Tryz.prog 166 D_zed:=by unfold D_zed;exact dk N166.den
def zde (a0:(List UInt8)):(Point×Bool):=
 (bif (((!((zp ((zd a0 [44]).1)).2)) || (!((zp ((zd a0 [44]).2.1)).2))) || (!(zld ({ X:=(zp ((zd a0 [44]).1)).1,Y:=(zp ((zd a0 [44]).2.1)).1:Point }))))then({ X:=0,Y:=0:Point },false)else({ X:=(zp ((zd a0 [44]).1)).1,Y:=(zp ((zd a0 [44]).2.1)).1:Point },true))
namespace N82
theorem DD:DOk Tryz.prog (Go.Ab.DD [(133,dP D_zld),(164,dP D_zd),(81,dP D_zp)]):=ya yun.e <| ya yhk.e <| ya y3j.e <| ye _
theorem dn:type_of% (And.intro @D_zld.eq_1 <| And.intro @D_zd.eq_1 <| @D_zp.eq_1):=by and_intros<;>intros<;>rfl
theorem gr {p:Prop} (h:p:=by(grind [yze]);first|done|fail):p:=h
set_option maxHeartbeats 1000000 in
set_option maxRecDepth 20000 in
theorem den (a0:(List UInt8)) (hb0:a0.length<1099511627776) (hp0:a0.length<=1048576):Den Tryz.prog 82 [.str a0] (.tup [.agg (yve ((zde a0).1)),.bool ((zde a0).2)]):=by
 generalize hR:zde a0=r;unfold zde at hR;refine di Tryz.func82 Tryz.ntmps82 Tryz.results82 ?_;intro c hL hc hk;obtain⟨hL0,_⟩:=hL;have hw0:a0.length<9223372036854775808:=Nat.lt_succ_of_le hL0;clear hL0;simp only[pars,Nat.zero_add];have c1:=yze a0 [44];iterate 6 refine rS ?_
 refine AWP.cond rfl (fun hb => ?_) (fun hb => ?_)
 ·replace hR:=ct hR
  refine rS ?_;refine AWP.ret ?_;subst hR;exact es
 ·replace hR:=cf hR
  refine rS ?_;refine AWP.ret ?_;subst hR;exact es
end N82
def D_zde : DF
 | [x0]=>some (.tup [.agg (yve ((zde (rdS x0)).1)),.bool ((zde (rdS x0)).2)],false,[wS x0,(rdS x0).length<1099511627776,(rdS x0).length<=1048576])
 | _=>none
theorem yd0:OkD Tryz.prog 82 D_zde:=by unfold D_zde;exact dk N82.den
def yzj (a0:(List Aid)) (a1:(List Aid)) (i1:Nat) (s1:Unit):Except (Bool) (Unit):=
 (bif (!(zce (a0.getD i1 default) (a1.getD i1 default)))then .error false else .ok ())
def zmd (a0:(List Aid)) (a1:(List Aid)):Bool:=
 (bif ((a0.length:Int) != (a1.length:Int))then false else(match yf (yzj a0 a1) (a0.length-0) 0 ()with|.error e=>e|.ok s1=>true))
namespace N_zmd
theorem DD:DOk Tryz.prog (Go.Ab.DD [(29,dP D_zce)]):=ya yxv.e <| ye _
theorem dn:type_of% (@D_zce.eq_1):=by and_intros<;>intros<;>rfl
theorem den (a0:(List Aid)) (a1:(List Aid))  : Den Tryz.prog 88 [encL 16 eAid a0,encL 16 eAid a1,.fn 29 0 []] (.bool (zmd a0 a1)):=by
 generalize hR:zmd a0 a1=r;unfold zmd at hR;refine di Tryz.func88 Tryz.ntmps88 Tryz.results88 ?_;intro c hL hc hk;obtain⟨hL0,hL1,hL2,_⟩:=hL;have hw0:a0.length<9223372036854775808:=Nat.lt_succ_of_le (yc hL0).1;have hw1:∀ v∈a0,bwAid v:=fun v hv=>y5 v ((yc hL0).2 v hv)
 have hw2:a1.length<9223372036854775808:=Nat.lt_succ_of_le (yc hL1).1;have hw3:∀ v∈a1,bwAid v:=fun v hv=>y5 v ((yc hL1).2 v hv)
 clear hL0 hL1 hL2;simp only[pars,Nat.zero_add];iterate 2 refine rS ?_
 refine AWP.cond rfl (fun hb => ?_) (fun hb => ?_)
 ·replace hR:=ct hR
  refine rS ?_;refine AWP.ret ?_;subst hR;exact es
 ·replace hR:=cf hR
  refine rS ?_;refine AWP.block ?_;generalize hz1:yf (yzj a0 a1) (a0.length-0) 0 ()=z1 at hR;refine AWP.range (yzj a0 a1) (fun i1 s1=>⟨[(1,encL 16 eAid a1),(2,.fn 29 0 []),(15,encL 16 eAid a0),(16,.int .i64 (a0.length:Int)),(17,.int .i64 (i1:Int))],[]⟩) (fun i1 s1=>True) (a0.length) 0 () [] hz1 ot wt sm ?_;clear hz1;intro i1 s1 hi1 hW1 hz1;refine rS ?_;refine AWP.seq ?_;refine AWP.cond rfl (fun hb => ?_) (fun hb => ?_)
  ·have hlt1:i1<a0.length:=ot
   rw[yp hlt1]at hz1;simp only[yzj]at hz1;iterate 3 refine rS ?_
   refine AWP.cond rfl (fun hb => ?_) (fun hb => ?_)
   ·simp only[hb,cond_true]at hz1
    refine rS ?_;refine AWP.ret ?_;subst hz1;dsimp only at hR;subst hR;exact es
   ·simp only[hb,cond_false]at hz1
    refine rS ?_;exact⟨_,[],hlt1,wt,hz1,sm⟩
  ·obtain rfl:i1=a0.length:=ot
   rw[yq (Nat.le_refl _)]at hz1;subst hz1;dsimp only at hR;refine AWP.exit ?_;refine yb ?_;refine rS ?_;refine AWP.ret ?_;subst hR;exact es
end N_zmd
def D_zmd : DF
 | [x0,x1,(.fn f29_2 kf29_2 [])]=>some (.bool (zmd (rdL dAid x0) (rdL dAid x1)),false,[wL 16 eAid dAid x0,wL 16 eAid dAid x1,f29_2=29,kf29_2=0])
 | _=>none
theorem yv0:OkD Tryz.prog 88 D_zmd:=by
 intro xs r z ob h ho;unfold D_zmd at h;split at h
 ·simp only[Option.some.injEq,Prod.mk.injEq]at h
  obtain⟨rfl,rfl,rfl⟩:=h;obtain⟨h0,h1,qf29_2,qkf29_2,_⟩:=ho;exact Den.sim (N_zmd.den _ _ ) (yr (y1g h0).1 <| yr (y1g h1).1 <| yr (by subst qf29_2 qkf29_2;exact yxk _) <| trivial) (yy (y1g h0).2 <| yy (y1g h1).2 <| yy (by rfl) <| rfl) rfl
 ·cases h
def zwe (a0:(List Aid)) (a1:(List Aid)):Bool:=
 (zmd a0 a1)
namespace N30
theorem DD:DOk Tryz.prog (Go.Ab.DD [(88,dP D_zmd)]):=ya yv0.e <| ye _
theorem dn:type_of% (@D_zmd.eq_1):=by and_intros<;>intros<;>rfl
theorem den (a0:(List Aid)) (a1:(List Aid))  : Den Tryz.prog 30 [encL 16 eAid a0,encL 16 eAid a1] (.bool (zwe a0 a1)):=by
 generalize hR:zwe a0 a1=r;unfold zwe at hR;refine di Tryz.func30 Tryz.ntmps30 Tryz.results30 ?_;intro c hL hc hk;obtain⟨hL0,hL1,_⟩:=hL;have hw0:a0.length<9223372036854775808:=Nat.lt_succ_of_le (yc hL0).1;have hw1:∀ v∈a0,bwAid v:=fun v hv=>y5 v ((yc hL0).2 v hv)
 have hw2:a1.length<9223372036854775808:=Nat.lt_succ_of_le (yc hL1).1;have hw3:∀ v∈a1,bwAid v:=fun v hv=>y5 v ((yc hL1).2 v hv)
 clear hL0 hL1;simp only[pars,Nat.zero_add];iterate 2 refine rS ?_
 refine AWP.ret ?_;subst hR;exact es
end N30
def D_zwe : DF
 | [x0,x1]=>some (.bool (zwe (rdL dAid x0) (rdL dAid x1)),false,[wL 16 eAid dAid x0,wL 16 eAid dAid x1])
 | _=>none
theorem y70:OkD Tryz.prog 30 D_zwe:=by unfold D_zwe;exact dk N30.den
end Go.Ab
