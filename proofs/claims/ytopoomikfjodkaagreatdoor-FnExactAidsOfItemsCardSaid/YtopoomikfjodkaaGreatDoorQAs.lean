/- A part of a proof: walks of functions and lemmas of our own. No conditions. -/
import Derived.Test.YtopoomikfjodkaaGreatDoorQAl
import Derived.Test.YtopoomikfjodkaaGreatDoorQAr
import Derived.Test.YtopoomikfjodkaaGreatDoorQAo
import Derived.Test.YtopoomikfjodkaaGreatDoorQAq
set_option linter.unusedSectionVars false
set_option linter.unusedVariables false
set_option linter.unusedSimpArgs false
set_option maxHeartbeats 1000000
namespace Go.Ab
open Go Go.Proofs
def y8t (a0:(List UInt8)) (s1:Int):Except (Sum ((Int×Bool)) (Int)) (Int):=
 (bif decide (s1≤9)then(bif ((zuc s1) == a0)then .error (.inl (s1,true))else .ok (IntKind.wrap .i64 (s1+1)))else .error (.inr s1))
def zpc (a0:(List UInt8)):(Int×Bool):=
 (match y7 (y8t a0) (((10-(0:Int)).toNat)+1) 0 with|.error (.inl e)=>e|.error (.inr s1)=>(0,false)|.ok _=>default)
namespace N21
theorem DD:DOk Tryz.prog (Go.Ab.DD [(22,dP D_zuc)]):=ya yvm.e <| ye _
theorem dn:type_of% (@D_zuc.eq_1):=by and_intros<;>intros<;>rfl
theorem den (a0:(List UInt8))  : Den Tryz.prog 21 [.str a0] (.tup [.int .i64 ((zpc a0).1),.bool ((zpc a0).2)]):=by
 generalize hR:zpc a0=r
 unfold zpc at hR
 refine di Tryz.func21 Tryz.ntmps21 Tryz.results21 ?_
 intro c hL hc hk
 obtain⟨hL0,_⟩:=hL
 have hw0:a0.length<9223372036854775808:=Nat.lt_succ_of_le hL0
 clear hL0
 simp only[pars,Nat.zero_add]
 iterate 2 refine rS ?_
 refine AWP.block ?_
 generalize hz1:y7 (y8t a0) (((10-(0:Int)).toNat)+1) 0=z1 at hR
 refine AWP.whileW (y8t a0) (fun s1=>⟨[(0,.str a0),(4,.int .i64 s1)],[]⟩) (fun s1=>0≤s1∧s1≤10) (fun s1=>(10-s1).toNat) (((10-(0:Int)).toNat)+1) 0 [] hz1 m0 wt sm ?_
 clear hz1
 intro s1 k1 hW1 hm1 hz1
 simp only[y8t]at hz1
 refine rS ?_
 refine AWP.cond rfl (fun hb => ?_) (fun hb => ?_)
 ·simp only[hb,cond_true]at hz1
  refine rS ?_
  refine AWP.cond rfl (fun hb => ?_) (fun hb => ?_)
  ·simp only[hb,cond_true]at hz1
   refine rS ?_
   refine AWP.ret ?_
   subst hz1
   dsimp only at hR
   subst hR
   exact es
  ·simp only[hb,cond_false]at hz1
   refine rS ?_
   exact⟨_,[],ms,wt,hz1,sm⟩
 ·simp only[hb,cond_false]at hz1
  refine AWP.exit ?_
  refine yb ?_
  subst hz1;dsimp only at hR
  refine rS ?_
  refine AWP.ret ?_
  subst hR
  exact es
end N21
def D_zpc : DF
 | [x0]=>some (.tup [.int .i64 ((zpc (rdS x0)).1),.bool ((zpc (rdS x0)).2)],false,[wS x0])
 | _=>none
theorem yz1:OkD Tryz.prog 21 D_zpc:=by unfold D_zpc;exact dk N21.den
end Go.Ab

namespace Go.Ab
open Go Go.Proofs
def CBd (r:Character×Bool):Prop:=r.1.Group.length≤1048577∧r.1.Letter.length≤1048577∧r.1.Colors.length≤0
theorem cbd0 (b:Bool):CBd ({ Kind:=0,Group:=[],Letter:=[],Colors:=[],Period:=0:Character },b):=⟨by simp,by simp,by simp⟩
theorem y13 (n : Nat) (hn : n ≤ 1048577) (b : Nat → List Int → Except (Character × Bool) (List Int)) (hb : ∀ i s, (∃ x, b i s = .ok (s ++ [x])) ∨ ∃ e, b i s = .error e ∧ CBd e) (f : List Int → Character × Bool)
  (hf:∀ s,s.length≤1048577→CBd (f s)):CBd (match yd b (n-0) 0 ([]:List Int)with|.error e=>e|.ok s=>f s):=by
 cases h:yd b (n-0) 0 ([]:List Int)with
 | error e=>
  obtain⟨j,t,_,_,h3⟩:=ypc h
  rcases hb j t with⟨x,hx⟩|⟨e',he,hc⟩
  ·rw[hx]at h3;cases h3
  ·rw[he]at h3;cases h3;exact hc
 | ok s=>
  have hk:=y8c (fun i s=>s.length≤i) h (by simp) (fun j u v _ _ hu hv=>by
   rcases hb j u with⟨x,hx⟩|⟨e',he,hc⟩
   ·rw[hx]at hv
    simp only[Except.ok.injEq]at hv
    subst hv
    simp only[List.length_append,List.length_singleton];omega
   ·rw[he]at hv;cases hv)
  exact hf s (by omega)
theorem ygr (a:List UInt8) (ha:a.length≤1048576):CBd (zj a):=by
  have c1:=y2q a [43,76,70,108]
  have c2:=y3e (ze a [43,76,70,108]).1 [40]
  have c3:=y2q (zb (ze a [43,76,70,108]).1 [40]).2.1 [41]
  have c4:=(y3t (ze (zb (ze a [43,76,70,108]).1 [40]).2.1 [41]).1 [43] (by omega)).1
  have hw:∀ (b:Int×Int→Except (Sum (Character×Bool) (Int×Int)) (Int×Int)) (n:Nat) (s:Int×Int) (f:Int×Int→Character×Bool),(∀ s,match b s with|.error (.inl e)=>False|_=>True)→(∀ s,CBd (f s))→CBd (default:Character×Bool) →
      CBd (match y7 b n s with|.error (.inl e)=>e|.error (.inr s)=>f s|.ok _=>default):=by
    intro b n s f hb hf hd
    have h:=y1k (body:=b) (I:=fun _=>True) (Q:=fun r=>match r with|.inl e=>False|.inr _=>True) (fun s _=>by
      have:=hb s
      cases hbs:b s with
      | error r => rw [hbs] at this; cases r with
        | inl e=>exact this
        | inr t=>trivial
      | ok t=>trivial) n s trivial
    cases hl:y7 b n s with
    | error r=>
      rw[hl]at h
      cases r with
      | inl e=>exact h.elim
      | inr t=>exact hf t
    | ok t=>exact hd
  have hdef:CBd (default:Character×Bool):=⟨by show(0:Nat)≤_;omega,by show(0:Nat)≤_;omega,by show(0:Nat)≤_;omega⟩
  unfold zj
  cases(ze a [43,76,70,108]).2 with
  | true=>
    simp only[cond_true]
    refine hw _ _ _ _ (fun s => ?_) (fun s => ?_) hdef
    · unfold yzr
      cases decide (s.1≤8)with
      | false=>trivial
      | true=>
        simp only[cond_true]
        cases((zac s.1) == ((zb ((ze a [43,76,70,108]).1) [40]).1))with
        | true=>trivial
        | false=>trivial
    · cases(!((zb ((ze a [43,76,70,108]).1) [40]).2.2))with
      | true=>exact⟨by simp,by simp,by simp⟩
      | false=>
        simp only[cond_false]
        cases(s.2 == 8)with
        | true=>exact⟨by simp,by simp only[cond_true];omega,by simp⟩
        | false=>
          simp only[cond_false]
          refine y13 _ c4 _ (fun i t => ?_) (fun t=>({ Kind:=s.2,Group:=t,Letter:=[76],Colors:=[],Period:=0:Character },_)) (fun t ht=>⟨ht,by simp,by simp⟩)
          unfold yfr
          cases(!((zk ((zd ((ze ((zb ((ze a [43,76,70,108]).1) [40]).2.1) [41]).1) [43]).getD i default)).2))with
          | true=>exact .inr ⟨_,rfl,cbd0 _⟩
          | false=>exact .inl ⟨_,rfl⟩
  | false=>
    simp only[cond_false]
    refine hw _ _ _ _ (fun s => ?_) (fun s => ?_) hdef
    · unfold ypj
      cases decide (s.1≤8)with
      | false=>trivial
      | true=>
        simp only[cond_true]
        cases((zac s.1) == ((zb ((ze a [43,76,70,108]).1) [40]).1))with
        | true=>trivial
        | false=>trivial
    · cases(!((zb ((ze a [43,76,70,108]).1) [40]).2.2))with
      | true=>exact⟨by simp,by simp,by simp⟩
      | false=>
        simp only[cond_false]
        cases(s.2 == 8)with
        | true=>exact⟨by simp,by simp only[cond_true];omega,by simp⟩
        | false=>
          simp only[cond_false]
          refine y13 _ c4 _ (fun i t => ?_) (fun t=>({ Kind:=s.2,Group:=t,Letter:=[],Colors:=[],Period:=0:Character },_)) (fun t ht=>⟨ht,by simp,by simp⟩)
          unfold y9q
          cases(!((zk ((zd ((ze ((zb ((ze a [43,76,70,108]).1) [40]).2.1) [41]).1) [43]).getD i default)).2))with
          | true=>exact .inr ⟨_,rfl,cbd0 _⟩
          | false=>exact .inl ⟨_,rfl⟩
end Go.Ab

namespace Go.Ab
open Go Go.Proofs
def zee (a0:(List UInt8)):(Int×Bool):=
 ((zdd ((zzd a0 [110]).1)).1,((((zzd a0 [110]).2 && (zdd ((zzd a0 [110]).1)).2) && ((((zzd a0 [110]).1).length:Int) == 4)) && decide (0<((zdd ((zzd a0 [110]).1)).1))))
namespace N159
theorem DD:DOk Tryz.prog (Go.Ab.DD [(249,dP D_zzd),(250,dP D_zdd)]):=ya yb2.e <| ya yyz.e <| ye _
theorem dn:type_of% (And.intro @D_zzd.eq_1 <| @D_zdd.eq_1):=by and_intros<;>intros<;>rfl
theorem den (a0:(List UInt8))  : Den Tryz.prog 159 [.str a0] (.tup [.int .i64 ((zee a0).1),.bool ((zee a0).2)]):=by
 generalize hR:zee a0=r
 unfold zee at hR
 refine di Tryz.func159 Tryz.ntmps159 Tryz.results159 ?_
 intro c hL hc hk
 obtain⟨hL0,_⟩:=hL
 have hw0:a0.length<9223372036854775808:=Nat.lt_succ_of_le hL0
 clear hL0
 simp only[pars,Nat.zero_add]
 iterate 4 refine rS ?_
 refine AWP.ret ?_
 subst hR
 exact es
end N159
def D_zee : DF
 | [x0]=>some (.tup [.int .i64 ((zee (rdS x0)).1),.bool ((zee (rdS x0)).2)],false,[wS x0])
 | _=>none
theorem ylz:OkD Tryz.prog 159 D_zee:=by unfold D_zee;exact dk N159.den
end Go.Ab

namespace Go.Ab
open Go Go.Proofs
def ztf (a0:Item):Bool:=
 ((zbd a0.Key) && (zx (a0.Text.length:Int) 400))
namespace N248
theorem DD:DOk Tryz.prog (Go.Ab.DD [(160,dP D_zx),(210,dP D_zbd)]):=ya y9f.e <| ya yxu.e <| ye _
theorem dn:type_of% (And.intro @D_zx.eq_1 <| @D_zbd.eq_1):=by and_intros<;>intros<;>rfl
theorem den (a0:Item)  : Den Tryz.prog 248 [.agg (eItem a0)] (.bool (ztf a0)):=by
 generalize hR:ztf a0=r
 unfold ztf at hR
 refine di Tryz.func248 Tryz.ntmps248 Tryz.results248 ?_
 intro c hL hc hk
 obtain⟨hL0,_⟩:=hL
 have hw0:bwItem a0:=ybb a0 hL0
 clear hL0
 simp only[pars,Nat.zero_add]
 iterate 2 refine rS ?_
 refine AWP.ret ?_
 subst hR
 exact es
end N248
def D_ztf : DF
 | [x0]=>some (.bool (ztf (rdG yhb x0)),false,[wG eItem yhb x0])
 | _=>none
theorem yl1:OkD Tryz.prog 248 D_ztf:=by unfold D_ztf;exact dk N248.den
end Go.Ab

namespace Go.Ab
open Go Go.Proofs
def yvk (a0:(List Item)) (i1:Nat) (s1:Unit):Except (Bool) (Unit):=
 (bif ((!(ztf (a0.getD i1 default))) || (decide (0<(i1:Int)) && !(Op.bytesLess ((a0.getD ((IntKind.wrap .i64 ((i1:Int)-1)).toNat) default).Key) ((a0.getD i1 default).Key))))then .error false else .ok ())
def zgc (a0:(List Item)):Bool:=
 (match yd (yvk a0) (a0.length-0) 0 ()with|.error e=>e|.ok s1=>(zx (a0.length:Int) 40))
namespace N158
theorem DD:DOk Tryz.prog (Go.Ab.DD [(160,dP D_zx),(248,dP D_ztf)]):=ya y9f.e <| ya yl1.e <| ye _
theorem dn:type_of% (And.intro @D_zx.eq_1 <| @D_ztf.eq_1):=by and_intros<;>intros<;>rfl
theorem den (a0:(List Item))  : Den Tryz.prog 158 [encL 2 eItem a0] (.bool (zgc a0)):=by
 generalize hR:zgc a0=r
 unfold zgc at hR
 refine di Tryz.func158 Tryz.ntmps158 Tryz.results158 ?_
 intro c hL hc hk
 obtain⟨hL0,_⟩:=hL
 have hw0:a0.length<9223372036854775808:=Nat.lt_succ_of_le (yf hL0).1
 have hw1:∀ v∈a0,bwItem v:=fun v hv=>ybb v ((yf hL0).2 v hv)
 clear hL0
 simp only[pars,Nat.zero_add]
 iterate 2 refine rS ?_
 refine AWP.block ?_
 generalize hz1:yd (yvk a0) (a0.length-0) 0 ()=z1 at hR
 refine AWP.range (yvk a0) (fun i1 s1=>⟨[(0,encL 2 eItem a0),(5,encL 2 eItem a0),(6,.int .i64 (a0.length:Int)),(7,.int .i64 (i1:Int))],[]⟩) (fun i1 s1=>True) (a0.length) 0 () [] hz1 ot wt sm ?_
 clear hz1
 intro i1 s1 hi1 hW1 hz1
 refine rS ?_
 refine AWP.seq ?_
 refine AWP.cond rfl (fun hb => ?_) (fun hb => ?_)
 ·have hlt1:i1<a0.length:=ot
  rw[yh hlt1]at hz1;simp only[yvk]at hz1
  refine rS ?_
  refine rD 18 ?_
  refine AWP.cond rfl (fun hb => ?_) (fun hb => ?_)
  ·simp only[hb,cond_true]at hz1
   refine rS ?_
   refine AWP.ret ?_
   subst hz1
   dsimp only at hR
   subst hR
   exact es
  ·simp only[hb,cond_false]at hz1
   refine rS ?_
   exact⟨_,[],hlt1,wt,hz1,sm⟩
 ·obtain rfl:i1=a0.length:=ot
  rw[yg (Nat.le_refl _)]at hz1;subst hz1;dsimp only at hR
  refine AWP.exit ?_;refine yb ?_
  refine rS ?_
  refine AWP.ret ?_
  subst hR
  exact es
end N158
def D_zgc : DF
 | [x0]=>some (.bool (zgc (rdL yhb x0)),false,[wL 2 eItem yhb x0])
 | _=>none
theorem y31:OkD Tryz.prog 158 D_zgc:=by unfold D_zgc;exact dk N158.den
end Go.Ab

namespace Go.Ab
open Go Go.Proofs
theorem yb6 (a:List Item) (h:zgc a=true):a.length≤40:=by
 unfold zgc at h
 split at h
 ·rename_i e he
  obtain⟨j,t,h1,h2,h3⟩:=ypc he
  simp only[yvk]at h3
  revert h3
  generalize ((!(ztf _)) || _:Bool)=q
  cases q<;>simp
  rintro rfl;simp at h
 ·simp only[zx,decide_eq_true_eq]at h
  omega
end Go.Ab
