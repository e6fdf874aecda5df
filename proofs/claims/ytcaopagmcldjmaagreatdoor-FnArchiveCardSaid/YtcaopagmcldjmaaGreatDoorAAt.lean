/- A part of a proof: walks of functions and lemmas of our own. No conditions. -/
import Derived.Test.YtcaopagmcldjmaaGreatDoorAAs
import Derived.Test.YtcaopagmcldjmaaGreatDoorAAo
import Derived.Test.YtcaopagmcldjmaaGreatDoorAAp
import Derived.Test.YtcaopagmcldjmaaGreatDoorAAq
import Derived.Test.YtcaopagmcldjmaaGreatDoorAAl
import Derived.Test.YtcaopagmcldjmaaGreatDoorAAr
import Derived.Test.YtcaopagmcldjmaaGreatDoorAAm
import Derived.Test.YtcaopagmcldjmaaGreatDoorAAn
import Derived.Test.YtcaopagmcldjmaaGreatDoorAAi
set_option linter.unusedSectionVars false
set_option linter.unusedVariables false
set_option linter.unusedSimpArgs false
set_option maxHeartbeats 1000000
namespace Go.Ab
open Go Go.Proofs
def CBd (r:Character×Bool):Prop:=r.1.Group.length<=1048577/\r.1.Letter.length<=1048577/\r.1.Colors.length<=0
theorem cbd0 (b:Bool):CBd ({ Kind:=0,Group:=[],Letter:=[],Colors:=[],Period:=0:Character },b):=⟨by simp,by simp,by simp⟩
theorem ys4 (n : Nat) (hn : n <= 1048577) (b : Nat -> List Int -> Except (Character × Bool) (List Int)) (hb : ∀ i s, (∃ x, b i s = .ok (s ++ [x])) \/ ∃ e, b i s = .error e /\ CBd e) (f : List Int -> Character × Bool)
  (hf:∀ s,s.length<=1048577->CBd (f s)):CBd (match yf b (n-0) 0 ([]:List Int)with|.error e=>e|.ok s=>f s):=by
 cases h:yf b (n-0) 0 ([]:List Int)with
 | error e=>
  obtain⟨j,t,_,_,h3⟩:=yvb h;rcases hb j t with⟨x,hx⟩|⟨e',he,hc⟩
  ·rw[hx]at h3;cases h3
  ·rw[he]at h3;cases h3;exact hc
 | ok s=>
  have hk:=yof (fun i s=>s.length<=i) h (by simp) (fun j u v _ _ hu hv=>by
   rcases hb j u with⟨x,hx⟩|⟨e',he,hc⟩
   ·rw[hx]at hv
    simp only[Except.ok.injEq]at hv;subst hv;simp only[List.length_append,List.length_singleton];omega
   ·rw[he]at hv;cases hv)
  exact hf s (by omega)
theorem yhs (a:List UInt8) (ha:a.length<=1048576):CBd (zq a):=by
  have c1:=yco a [43,76,70,108];have c2:=ykc (zi a [43,76,70,108]).1 [40];have c3:=yco (zd (zi a [43,76,70,108]).1 [40]).2.1 [41];have c4:=(yet (zi (zd (zi a [43,76,70,108]).1 [40]).2.1 [41]).1 [43] (by omega)).1
  have hw:∀ (b:Int×Int->Except (Sum (Character×Bool) (Int×Int)) (Int×Int)) (n:Nat) (s:Int×Int) (f:Int×Int->Character×Bool),(∀ s,match b s with|.error (.inl e)=>False|_=>True)->(∀ s,CBd (f s))->CBd (default:Character×Bool) ->
      CBd (match yeb b n s with|.error (.inl e)=>e|.error (.inr s)=>f s|.ok _=>default):=by
    intro b n s f hb hf hd
    have h:=ysq (body:=b) (I:=fun _=>True) (Q:=fun r=>match r with|.inl e=>False|.inr _=>True) (fun s _=>by
      have:=hb s
      cases hbs:b s with
      | error r => rw [hbs] at this; cases r with
        | inl e=>exact this
        | inr t=>trivial
      | ok t=>trivial) n s trivial
    cases hl:yeb b n s with
    | error r=>
      rw[hl]at h
      cases r with
      | inl e=>exact h.elim
      | inr t=>exact hf t
    | ok t=>exact hd
  have hdef:CBd (default:Character×Bool):=⟨by show(0:Nat)<=_;omega,by show(0:Nat)<=_;omega,by show(0:Nat)<=_;omega⟩
  unfold zq
  cases(zi a [43,76,70,108]).2 with
  | true=>
    simp only[cond_true];refine hw _ _ _ _ (fun s => ?_) (fun s => ?_) hdef
    . unfold y8r
      cases decide (s.1<=8)with
      | false=>trivial
      | true=>
        simp only[cond_true]
        cases((zrc s.1) == ((zd ((zi a [43,76,70,108]).1) [40]).1))with
        | true=>trivial
        | false=>trivial
    . cases(!((zd ((zi a [43,76,70,108]).1) [40]).2.2))with
      | true=>exact⟨by simp,by simp,by simp⟩
      | false=>
        simp only[cond_false]
        cases(s.2 == 8)with
        | true=>exact⟨by simp,by simp only[cond_true];omega,by simp⟩
        | false=>
          simp only[cond_false];refine ys4 _ c4 _ (fun i t => ?_) (fun t=>({ Kind:=s.2,Group:=t,Letter:=[76],Colors:=[],Period:=0:Character },_)) (fun t ht=>⟨ht,by simp,by simp⟩);unfold yrr
          cases(!((zl ((zf ((zi ((zd ((zi a [43,76,70,108]).1) [40]).2.1) [41]).1) [43]).getD i default)).2))with
          | true=>exact .inr ⟨_,rfl,cbd0 _⟩
          | false=>exact .inl ⟨_,rfl⟩
  | false=>
    simp only[cond_false];refine hw _ _ _ _ (fun s => ?_) (fun s => ?_) hdef
    . unfold yjj
      cases decide (s.1<=8)with
      | false=>trivial
      | true=>
        simp only[cond_true]
        cases((zrc s.1) == ((zd ((zi a [43,76,70,108]).1) [40]).1))with
        | true=>trivial
        | false=>trivial
    . cases(!((zd ((zi a [43,76,70,108]).1) [40]).2.2))with
      | true=>exact⟨by simp,by simp,by simp⟩
      | false=>
        simp only[cond_false]
        cases(s.2 == 8)with
        | true=>exact⟨by simp,by simp only[cond_true];omega,by simp⟩
        | false=>
          simp only[cond_false];refine ys4 _ c4 _ (fun i t => ?_) (fun t=>({ Kind:=s.2,Group:=t,Letter:=[],Colors:=[],Period:=0:Character },_)) (fun t ht=>⟨ht,by simp,by simp⟩);unfold yqr
          cases(!((zl ((zf ((zi ((zd ((zi a [43,76,70,108]).1) [40]).2.1) [41]).1) [43]).getD i default)).2))with
          | true=>exact .inr ⟨_,rfl,cbd0 _⟩
          | false=>exact .inl ⟨_,rfl⟩
def ygv (a0:(List UInt8)) (s1:Int):Except (Sum ((Int×Bool)) (Int)) (Int):=
 (bif decide (s1<=9)then(bif ((zrd s1) == a0)then .error (.inl (s1,true))else .ok (IntKind.wrap .i64 (s1+1)))else .error (.inr s1))
def zgd (a0:(List UInt8)):(Int×Bool):=
 (match yeb (ygv a0) (((10-(0:Int)).toNat)+1) 0 with|.error (.inl e)=>e|.error (.inr s1)=>(0,false)|.ok _=>default)
namespace N108
theorem DD:DOk Tryz.prog (Go.Ab.DD [(102,dP D_zrd)]):=ya ydn.e <| yd _
theorem dn:type_of% (@D_zrd.eq_1):=by and_intros<;>intros<;>rfl
theorem den (a0:(List UInt8))  : Den Tryz.prog 108 [.str a0] (.tup [.int .i64 ((zgd a0).1),.bool ((zgd a0).2)]):=by
 generalize hR:zgd a0=r;unfold zgd at hR;refine di Tryz.func108 Tryz.ntmps108 Tryz.results108 ?_;intro c hL hc hk;obtain⟨hL0,_⟩:=hL;have hw0:a0.length<9223372036854775808:=Nat.lt_succ_of_le hL0;clear hL0;simp only[pars,Nat.zero_add];iterate 2 refine rS ?_
 refine AWP.block ?_;generalize hz1:yeb (ygv a0) (((10-(0:Int)).toNat)+1) 0=z1 at hR;refine AWP.whileW (ygv a0) (fun s1=>⟨[(0,.str a0),(4,.int .i64 s1)],[]⟩) (fun s1=>0<=s1/\s1<=10) (fun s1=>(10-s1).toNat) (((10-(0:Int)).toNat)+1) 0 [] hz1 m0 wt sm ?_;clear hz1;intro s1 k1 hW1 hm1 hz1;simp only[ygv]at hz1;refine rS ?_;refine AWP.cond rfl (fun hb => ?_) (fun hb => ?_)
 ·simp only[hb,cond_true]at hz1
  refine rS ?_;refine AWP.cond rfl (fun hb => ?_) (fun hb => ?_)
  ·simp only[hb,cond_true]at hz1
   refine rS ?_;refine AWP.ret ?_;subst hz1;dsimp only at hR;subst hR;exact es
  ·simp only[hb,cond_false]at hz1
   refine rS ?_;exact⟨_,[],ms,wt,hz1,sm⟩
 ·simp only[hb,cond_false]at hz1
  refine AWP.exit ?_;refine yb ?_;subst hz1;dsimp only at hR;refine rS ?_;refine AWP.ret ?_;subst hR;exact es
end N108
def D_zgd : DF
 | [x0]=>some (.tup [.int .i64 ((zgd (rdS x0)).1),.bool ((zgd (rdS x0)).2)],false,[wS x0])
 | _=>none
theorem yg1:OkD Tryz.prog 108 D_zgd:=by unfold D_zgd;exact dk N108.den
def zhe (a0:(List UInt8)):(Point×Bool):=
 (bif (((!((zl ((zd a0 [44]).1)).2)) || (!((zl ((zd a0 [44]).2.1)).2))) || (!(zpd ({ X:=(zl ((zd a0 [44]).1)).1,Y:=(zl ((zd a0 [44]).2.1)).1:Point }))))then({ X:=0,Y:=0:Point },false)else({ X:=(zl ((zd a0 [44]).1)).1,Y:=(zl ((zd a0 [44]).2.1)).1:Point },true))
namespace N67
theorem DD:DOk Tryz.prog (Go.Ab.DD [(49,dP D_zd),(66,dP D_zl),(86,dP D_zpd)]):=ya yke.e <| ya y9f.e <| ya yum.e <| yd _
theorem dn:type_of% (And.intro @D_zd.eq_1 <| And.intro @D_zl.eq_1 <| @D_zpd.eq_1):=by and_intros<;>intros<;>rfl
theorem gr {p:Prop} (h:p:=by(grind [ykc]);first|done|fail):p:=h
set_option maxHeartbeats 1000000 in
set_option maxRecDepth 20000 in
theorem den (a0:(List UInt8)) (hb0:a0.length<1099511627776) (hp0:a0.length<=1048576):Den Tryz.prog 67 [.str a0] (.tup [.agg (ytf ((zhe a0).1)),.bool ((zhe a0).2)]):=by
 generalize hR:zhe a0=r;unfold zhe at hR;refine di Tryz.func67 Tryz.ntmps67 Tryz.results67 ?_;intro c hL hc hk;obtain⟨hL0,_⟩:=hL;have hw0:a0.length<9223372036854775808:=Nat.lt_succ_of_le hL0;clear hL0;simp only[pars,Nat.zero_add];have c1:=ykc a0 [44];iterate 6 refine rS ?_
 refine AWP.cond rfl (fun hb => ?_) (fun hb => ?_)
 ·replace hR:=ct hR
  refine rS ?_;refine AWP.ret ?_;subst hR;exact es
 ·replace hR:=cf hR
  refine rS ?_;refine AWP.ret ?_;subst hR;exact es
end N67
def D_zhe : DF
 | [x0]=>some (.tup [.agg (ytf ((zhe (rdS x0)).1)),.bool ((zhe (rdS x0)).2)],false,[wS x0,(rdS x0).length<1099511627776,(rdS x0).length<=1048576])
 | _=>none
theorem y02:OkD Tryz.prog 67 D_zhe:=by unfold D_zhe;exact dk N67.den
def zz (a0:Item):Int:=
 (zjc ((a0.Key++[32])++a0.Text) 65535)
namespace N25
theorem DD:DOk Tryz.prog (Go.Ab.DD [(48,dP D_zjc)]):=ya yl0.e <| yd _
theorem dn:type_of% (@D_zjc.eq_1):=by and_intros<;>intros<;>rfl
theorem o0 {p:Prop} (h:p:=by(first|((repeat' with_reducible apply And.intro)<;>first|with_reducible assumption|omega|(simp only[List.length_append,List.length_cons,List.length_nil,List.length_singleton];omega)));first|done|fail):p:=h
set_option maxHeartbeats 1000000 in
set_option maxRecDepth 20000 in
theorem den (a0:Item) (hb0:bdItem a0):Den Tryz.prog 25 [.agg (yr a0)] (.int .i64 (zz a0)):=by
 generalize hR:zz a0=r;unfold zz at hR;refine di Tryz.func25 Tryz.ntmps25 Tryz.results25 ?_;intro c hL hc hk;obtain⟨hL0,_⟩:=hL;have hw0:bwItem a0:=y6 a0 hL0;clear hL0;simp only[pars,Nat.zero_add];obtain⟨hk1,hk2⟩:a0.Key.length<1099511627776/\a0.Text.length<1099511627776:=hb0;iterate 2 refine rS ?_
 refine AWP.ret ?_;subst hR;exact es
end N25
def D_zz : DF
 | [x0]=>some (.int .i64 (zz (rdG yp x0)),false,[wG yr yp x0,bdItem (rdG yp x0)])
 | _=>none
theorem y8n:OkD Tryz.prog 25 D_zz:=by unfold D_zz;exact dk N25.den
def y8l (a0:(List UInt8)) (a2:(List Item)) (i1:Nat) (s1:List UInt8×List Item):Except (Int×(List Item)) (List UInt8×List Item):=
 (bif (((zn s1.1).2.2.2) != 0)then .error ((zn s1.1).2.2.2,s1.2)else(bif (((zjd ((zn s1.1).1) (((zn s1.1).2.1) != (zz ((zn s1.1).1))) s1.2).1) != 0)then .error ((zjd ((zn s1.1).1) (((zn s1.1).2.1) != (zz ((zn s1.1).1))) s1.2).1,(zjd ((zn s1.1).1) (((zn s1.1).2.1) != (zz ((zn s1.1).1))) s1.2).2)else .ok ((zn s1.1).2.2.1,(zjd ((zn s1.1).1) (((zn s1.1).2.1) != (zz ((zn s1.1).1))) s1.2).2)))
def zec (a0:(List UInt8)) (a2:(List Item)):Int×(List Item):=
 (bif (!((zd a0 [10]).2.2))then(11,a2)else(bif (!((zjb ((zd a0 [10]).1)).2))then(9,a2)else(match yf (y8l a0 a2) (((zjb ((zd a0 [10]).1)).1).toNat-0) 0 ((zd a0 [10]).2.1,a2)with|.error e=>e|.ok s1=>(bif (s1.1 != [])then(9,s1.2)else(0,s1.2)))))
namespace N_zec
theorem DD:DOk Tryz.prog (Go.Ab.DD [(25,dP D_zz),(27,dH D_zjd),(49,dP D_zd),(50,dP D_zjb),(51,dP D_zn)]):=ya y8n.e <| ya yq1.e <| ya yke.e <| ya ytm.e <| ya yus.e <| yd _
theorem dn:type_of% (And.intro @D_zz.eq_1 <| And.intro @D_zjd.eq_1 <| And.intro @D_zd.eq_1 <| And.intro @D_zjb.eq_1 <| @D_zn.eq_1):=by and_intros<;>intros<;>rfl
theorem gr {p:Prop} (h:p:=by(grind [ykc]);first|done|fail):p:=h
theorem o0 {p:Prop} (h:p:=by(first|(have h9:=(yjc s1.1);have h7:=ybk hW1.1;have h6:=hrc (by assumption);have h5:=hW1.2;have h8:=y1q ((zn s1.1).1) (((zn s1.1).2.1) != (zz ((zn s1.1).1))) s1.2;(repeat' with_reducible apply And.intro)<;>first|with_reducible assumption|omega|(simp only[List.length_append,List.length_cons,List.length_nil,List.length_singleton];omega))|(have h7:=hrc (by assumption);(repeat' with_reducible apply And.intro)<;>first|with_reducible assumption|omega|(simp only[List.length_append,List.length_cons,List.length_nil,List.length_singleton];omega))|((repeat' with_reducible apply And.intro)<;>first|with_reducible assumption|omega|(simp only[List.length_append,List.length_cons,List.length_nil,List.length_singleton];omega)));first|done|fail):p:=h
set_option maxHeartbeats 1000000 in
set_option maxRecDepth 20000 in
theorem den (a0:(List UInt8)) (a2:(List Item)) (F:Nat->List AV) (hb0:a0.length<1099511627776) (hp0:a0.length<=1048576) (hp1:a2.length=0) (hF:∀ i,i<a2.length->F i=yr (a2.getD i default)):DenH Tryz.prog 26 [.str a0,.fn 27 0 [.ptr 1 0]] [.arr 38 2 a2.length F,.box [.ref 0 2 0 a2.length]] (.int .i64 ((zec a0 a2).1)) [.dead,.box [.ref 2 2 0 ((zec a0 a2).2).length],.arr 38 2 ((zec a0 a2).2).length (fun j=>yr (((zec a0 a2).2).getD j default))]:=by
 generalize hR:zec a0 a2=r;unfold zec at hR;refine yad (k:=2) (slot:=4) G_ok Tryz.func26 (by kernel_rfl) rfl Tryz.ntmps26 (by rw[Tryz.results26]) (by simp) rfl ?_;intro c hL hc hk;obtain⟨hL0,hL1,_⟩:=hL;have hw0:a0.length<9223372036854775808:=Nat.lt_succ_of_le hL0;clear hL0 hL1;simp only[pars,Nat.zero_add,Nat.reduceAdd];refine AWP.simD (s':=⟨[(0,.str a0),(1,.fn 27 0 [.ptr 1 0])],[.dead,.box [.ref 2 2 0 a2.length],.arr 38 2 a2.length (fun j=>yr (a2.getD j default))]⟩) [0,1,0] ?_ (by rw[hk];exact⟨rfl,rfl,by simp[livL],by simp only[si,ea,gv,sv,hk,reduceCtorEq,reduceIte,Nat.reduceBEq,Nat.reduceAdd,Nat.reduceEqDiff,Nat.reduceLT,Nat.reduceLeDiff,Nat.reduceMul,Nat.reduceSub,BEq.rfl,beq_self_eq_true,Int.reduceToNat];first|exact hF|exact fun i hi=>⟨hF i hi,rfl⟩|(refine⟨?_,?_⟩<;>first|trivial|exact hF),by simp only[si,ea,gv,sv,hk,reduceCtorEq,reduceIte,Nat.reduceBEq,Nat.reduceAdd,Nat.reduceEqDiff,Nat.reduceLT,Nat.reduceLeDiff,Nat.reduceMul,Nat.reduceSub,BEq.rfl,beq_self_eq_true,Int.reduceToNat]<;>trivial⟩);have c1:=ykc a0 [10];have hrc:=fun h=>y9h (a:=(zd a0 [10]).1) h
 iterate 3 refine rS ?_
 refine AWP.cond rfl (fun hb => ?_) (fun hb => ?_)
 ·replace hR:=ct hR
  refine rS ?_;refine AWP.ret ?_;subst hR;exact⟨[0,1,2],sm⟩
 ·replace hR:=cf hR
  iterate 2 refine rS ?_
  refine AWP.cond rfl (fun hb => ?_) (fun hb => ?_)
  ·replace hR:=ct hR
   refine rS ?_;refine AWP.ret ?_;subst hR;exact⟨[0,1,2],sm⟩
  ·replace hR:=cf hR
   refine rS ?_;refine AWP.block ?_;generalize hz1:yf (y8l a0 a2) (((zjb ((zd a0 [10]).1)).1).toNat-0) 0 ((zd a0 [10]).2.1,a2)=z1 at hR;refine AWP.range (y8l a0 a2) (fun i1 s1=>⟨[(1,.fn 27 0 [.ptr 1 0]),(6,.str s1.1),(30,.int .i64 ((zjb ((zd a0 [10]).1)).1)),(31,.int .i64 (i1:Int))],[.dead,.box [.ref 2 2 0 s1.2.length],.arr 38 2 s1.2.length (fun j=>yr (s1.2.getD j default))]⟩) (fun i1 s1=>s1.1.length<=1048576/\s1.2.length<=i1) (((zjb ((zd a0 [10]).1)).1).toNat) 0 ((zd a0 [10]).2.1,a2) [0,1,2] hz1 ot (by(dsimp only;exact⟨by omega,by omega⟩)) sm ?_;clear hz1;intro i1 s1 hi1 hW1 hz1;refine rS ?_;refine AWP.seq ?_;refine AWP.cond rfl (fun hb => ?_) (fun hb => ?_)
   ·have hlt1:i1<((zjb ((zd a0 [10]).1)).1).toNat:=ot
    rw[yk hlt1]at hz1;simp only[y8l]at hz1;iterate 2 refine rS ?_
    refine AWP.cond rfl (fun hb => ?_) (fun hb => ?_)
    ·simp only[hb,cond_true]at hz1
     refine rS ?_;refine AWP.ret ?_;subst hz1;dsimp only at hR;subst hR;exact⟨[0,1,2],sm⟩
    ·simp only[hb,cond_false]at hz1
     refine rD 6 ?_;refine rS ?_;refine AWP.cond rfl (fun hb => ?_) (fun hb => ?_)
     ·simp only[hb,cond_true]at hz1
      refine rS ?_;refine AWP.ret ?_;subst hz1;dsimp only at hR;subst hR;exact⟨[0,1,4],sm⟩
     ·simp only[hb,cond_false]at hz1
      iterate 2 refine rS ?_
      exact⟨_,[0,1,4],hlt1,by(have h9:=(yjc s1.1).2;have h8:=y1q ((zn s1.1).1) (((zn s1.1).2.1) != (zz ((zn s1.1).1))) s1.2;have h6:=hW1;dsimp only;exact⟨by omega,by omega⟩),hz1,sm⟩
   ·obtain rfl:i1=((zjb ((zd a0 [10]).1)).1).toNat:=ot
    rw[yl (Nat.le_refl _)]at hz1;subst hz1;dsimp only at hR;refine AWP.exit ?_;refine yb ?_;refine rS ?_;refine AWP.cond rfl (fun hb => ?_) (fun hb => ?_)
    ·replace hR:=ct hR
     refine rS ?_;refine AWP.ret ?_;subst hR;exact⟨[0,1,2],sm⟩
    ·replace hR:=cf hR
     refine rS ?_;refine AWP.ret ?_;subst hR;exact⟨[0,1,2],sm⟩
end N_zec
def D_zec : DHF
 | [x0,(.fn f27_1 kf27_1 [.ptr 1 0])],[.arr 38 2 hm hF,.box [.ref 0 2 0 hn]]=>some (.int .i64 ((zec (rdS x0) (decL yp hm hF)).1),[.dead,.box [.ref 2 2 0 ((zec (rdS x0) (decL yp hm hF)).2).length],.arr 38 2 ((zec (rdS x0) (decL yp hm hF)).2).length (fun j=>yr (((zec (rdS x0) (decL yp hm hF)).2).getD j default))],[wS x0,f27_1=27,kf27_1=0,(rdS x0).length<1099511627776,(rdS x0).length<=1048576,(decL yp hm hF).length=0,hn=hm,∀ i,i<hm->hF i=yr ((decL yp hm hF).getD i default)])
 | _,_=>none
theorem ym2:OkH Tryz.prog 26 D_zec:=by
 intro xs h r h' ob h0 ho;unfold D_zec at h0;split at h0
 ·rename_i x0 f27_1 kf27_1 hm hF hn
  simp only[Option.some.injEq,Prod.mk.injEq]at h0;obtain⟨rfl,rfl,rfl⟩:=h0;obtain⟨h0,qf27_1,qkf27_1,hb0,hp0,hp1,qn,qF,_⟩:=ho;subst qn;have hl:(decL yp hn hF).length=hn:=ycf _ _ _;have hd:=@N_zec.den (rdS x0) (decL yp hn hF) hF (by assumption) (by assumption) (by assumption) (by rw[hl];exact qF);rw[hl]at hd;exact DenH.sim hd (yh (ycb h0).1 <| yh (by subst qf27_1 qkf27_1;exact yec _) <| trivial)
 ·cases h0
def zoe (a0:(List UInt8)):((List Item)×Int):=
 (bif (((zec a0 ([]:List Item)).1) != 0)then([],(zec a0 ([]:List Item)).1)else((zec a0 ([]:List Item)).2,0))
namespace N8
theorem DD:DOk Tryz.prog (Go.Ab.DD [(26,dH D_zec)]):=ya ym2.e <| yd _
theorem dn:type_of% (@D_zec.eq_1):=by and_intros<;>intros<;>rfl
set_option maxHeartbeats 1000000 in
set_option maxRecDepth 20000 in
theorem den (a0:(List UInt8)) (hb0:a0.length<1099511627776) (hp0:a0.length<=1048576):Den Tryz.prog 8 [.str a0] (.tup [ownL 38 2 yr ((zoe a0).1),.int .i64 ((zoe a0).2)]):=by
 generalize hR:zoe a0=r;unfold zoe at hR;refine di Tryz.func8 Tryz.ntmps8 Tryz.results8 ?_;intro c hL hc hk;obtain⟨hL0,_⟩:=hL;have hw0:a0.length<9223372036854775808:=Nat.lt_succ_of_le hL0;clear hL0;simp only[pars,Nat.zero_add];iterate 4 refine rS ?_
 refine AWP.cond rfl (fun hb => ?_) (fun hb => ?_)
 ·replace hR:=ct hR
  refine rS ?_;refine AWP.ret ?_;subst hR;exact es
 ·replace hR:=cf hR
  refine rS ?_;refine AWP.ret ?_;subst hR;exact es
end N8
def D_zoe : DF
 | [x0]=>some (.tup [ownL 38 2 yr ((zoe (rdS x0)).1),.int .i64 ((zoe (rdS x0)).2)],false,[wS x0,(rdS x0).length<1099511627776,(rdS x0).length<=1048576])
 | _=>none
theorem yc1:OkD Tryz.prog 8 D_zoe:=by unfold D_zoe;exact dk N8.den
def yrl (a0:(List UInt8)) (a2:(List Int)) (a3:Int) (i1:Nat) (s1:List UInt8×Int×List Int):Except (Int×(List Int)×Int) (List UInt8×Int×List Int):=
 (bif (((zn s1.1).2.2.2) != 0)then .error ((zn s1.1).2.2.2,s1.2.2,s1.2.1)else(bif (((zyc ((zn s1.1).1) (((zn s1.1).2.1) != (zz ((zn s1.1).1))) s1.2.2 s1.2.1).1) != 0)then .error ((zyc ((zn s1.1).1) (((zn s1.1).2.1) != (zz ((zn s1.1).1))) s1.2.2 s1.2.1).1,(zyc ((zn s1.1).1) (((zn s1.1).2.1) != (zz ((zn s1.1).1))) s1.2.2 s1.2.1).2.1,(zyc ((zn s1.1).1) (((zn s1.1).2.1) != (zz ((zn s1.1).1))) s1.2.2 s1.2.1).2.2)else .ok ((zn s1.1).2.2.1,(zyc ((zn s1.1).1) (((zn s1.1).2.1) != (zz ((zn s1.1).1))) s1.2.2 s1.2.1).2.2,(zyc ((zn s1.1).1) (((zn s1.1).2.1) != (zz ((zn s1.1).1))) s1.2.2 s1.2.1).2.1)))
def zxb (a0:(List UInt8)) (a2:(List Int)) (a3:Int):Int×(List Int)×Int:=
 (bif (!((zd a0 [10]).2.2))then(11,a2,a3)else(bif (!((zjb ((zd a0 [10]).1)).2))then(9,a2,a3)else(match yf (yrl a0 a2 a3) (((zjb ((zd a0 [10]).1)).1).toNat-0) 0 ((zd a0 [10]).2.1,a3,a2)with|.error e=>e|.ok s1=>(bif (s1.1 != [])then(9,s1.2.2,s1.2.1)else(0,s1.2.2,s1.2.1)))))
namespace N_zxb
theorem DD:DOk Tryz.prog (Go.Ab.DD [(25,dP D_zz),(28,dH D_zyc),(49,dP D_zd),(50,dP D_zjb),(51,dP D_zn)]):=ya y8n.e <| ya yk0.e <| ya yke.e <| ya ytm.e <| ya yus.e <| yd _
theorem dn:type_of% (And.intro @D_zz.eq_1 <| And.intro @D_zyc.eq_1 <| And.intro @D_zd.eq_1 <| And.intro @D_zjb.eq_1 <| @D_zn.eq_1):=by and_intros<;>intros<;>rfl
theorem gr {p:Prop} (h:p:=by(grind [ykc]);first|done|fail):p:=h
theorem o0 {p:Prop} (h:p:=by(first|(have h9:=(yjc s1.1);have h7:=ybk hW1.1;have h6:=hrc (by assumption);have h5:=hW1.2;have h8:=y6q ((zn s1.1).1) (((zn s1.1).2.1) != (zz ((zn s1.1).1))) s1.2.2 s1.2.1;(repeat' with_reducible apply And.intro)<;>first|with_reducible assumption|omega|(simp only[List.length_append,List.length_cons,List.length_nil,List.length_singleton];omega))|(have h7:=hrc (by assumption);(repeat' with_reducible apply And.intro)<;>first|with_reducible assumption|omega|(simp only[List.length_append,List.length_cons,List.length_nil,List.length_singleton];omega))|((repeat' with_reducible apply And.intro)<;>first|with_reducible assumption|omega|(simp only[List.length_append,List.length_cons,List.length_nil,List.length_singleton];omega)));first|done|fail):p:=h
set_option maxHeartbeats 1000000 in
set_option maxRecDepth 20000 in
theorem den (a0:(List UInt8)) (a2:(List Int)) (a3:Int) (F:Nat->List AV) (hb0:a0.length<1099511627776) (hp0:a0.length<=1048576) (hp1:a2.length=0) (hF:∀ i,i<a2.length->F i=yv (a2.getD i default)):DenH Tryz.prog 26 [.str a0,.fn 28 0 [.ptr 1 0,.ptr 2 0]] [.arr 2 1 a2.length F,.box [.ref 0 1 0 a2.length],.box [.int .i64 a3]] (.int .i64 ((zxb a0 a2 a3).1)) [.dead,.box [.ref 3 1 0 ((zxb a0 a2 a3).2.1).length],.box [.int .i64 ((zxb a0 a2 a3).2.2)],.arr 2 1 ((zxb a0 a2 a3).2.1).length (fun j=>yv (((zxb a0 a2 a3).2.1).getD j default))]:=by
 generalize hR:zxb a0 a2 a3=r;unfold zxb at hR;refine yad (k:=3) (slot:=4) G_ok Tryz.func26 (by kernel_rfl) rfl Tryz.ntmps26 (by rw[Tryz.results26]) (by simp) rfl ?_;intro c hL hc hk;obtain⟨hL0,hL1,_⟩:=hL;have hw0:a0.length<9223372036854775808:=Nat.lt_succ_of_le hL0;clear hL0 hL1;simp only[pars,Nat.zero_add,Nat.reduceAdd];refine AWP.simD (s':=⟨[(0,.str a0),(1,.fn 28 0 [.ptr 1 0,.ptr 2 0])],[.dead,.box [.ref 3 1 0 a2.length],.box [.int .i64 a3],.arr 2 1 a2.length (fun j=>yv (a2.getD j default))]⟩) [0,1,2,0] ?_ (by rw[hk];exact⟨rfl,rfl,by simp[livL],by simp only[si,ea,gv,sv,hk,reduceCtorEq,reduceIte,Nat.reduceBEq,Nat.reduceAdd,Nat.reduceEqDiff,Nat.reduceLT,Nat.reduceLeDiff,Nat.reduceMul,Nat.reduceSub,BEq.rfl,beq_self_eq_true,Int.reduceToNat];first|exact hF|exact fun i hi=>⟨hF i hi,rfl⟩|(refine⟨?_,?_⟩<;>first|trivial|exact hF),by simp only[si,ea,gv,sv,hk,reduceCtorEq,reduceIte,Nat.reduceBEq,Nat.reduceAdd,Nat.reduceEqDiff,Nat.reduceLT,Nat.reduceLeDiff,Nat.reduceMul,Nat.reduceSub,BEq.rfl,beq_self_eq_true,Int.reduceToNat]<;>trivial⟩);have c1:=ykc a0 [10];have hrc:=fun h=>y9h (a:=(zd a0 [10]).1) h
 iterate 3 refine rS ?_
 refine AWP.cond rfl (fun hb => ?_) (fun hb => ?_)
 ·replace hR:=ct hR
  refine rS ?_;refine AWP.ret ?_;subst hR;exact⟨[0,1,2,3],sm⟩
 ·replace hR:=cf hR
  iterate 2 refine rS ?_
  refine AWP.cond rfl (fun hb => ?_) (fun hb => ?_)
  ·replace hR:=ct hR
   refine rS ?_;refine AWP.ret ?_;subst hR;exact⟨[0,1,2,3],sm⟩
  ·replace hR:=cf hR
   refine rS ?_;refine AWP.block ?_;generalize hz1:yf (yrl a0 a2 a3) (((zjb ((zd a0 [10]).1)).1).toNat-0) 0 ((zd a0 [10]).2.1,a3,a2)=z1 at hR;refine AWP.range (yrl a0 a2 a3) (fun i1 s1=>⟨[(1,.fn 28 0 [.ptr 1 0,.ptr 2 0]),(6,.str s1.1),(30,.int .i64 ((zjb ((zd a0 [10]).1)).1)),(31,.int .i64 (i1:Int))],[.dead,.box [.ref 3 1 0 s1.2.2.length],.box [.int .i64 s1.2.1],.arr 2 1 s1.2.2.length (fun j=>yv (s1.2.2.getD j default))]⟩) (fun i1 s1=>s1.1.length<=1048576/\s1.2.2.length<=i1) (((zjb ((zd a0 [10]).1)).1).toNat) 0 ((zd a0 [10]).2.1,a3,a2) [0,1,2,3] hz1 ot (by(dsimp only;exact⟨by omega,by omega⟩)) sm ?_;clear hz1;intro i1 s1 hi1 hW1 hz1;refine rS ?_;refine AWP.seq ?_;refine AWP.cond rfl (fun hb => ?_) (fun hb => ?_)
   ·have hlt1:i1<((zjb ((zd a0 [10]).1)).1).toNat:=ot
    rw[yk hlt1]at hz1;simp only[yrl]at hz1;iterate 2 refine rS ?_
    refine AWP.cond rfl (fun hb => ?_) (fun hb => ?_)
    ·simp only[hb,cond_true]at hz1
     refine rS ?_;refine AWP.ret ?_;subst hz1;dsimp only at hR;subst hR;exact⟨[0,1,2,3],sm⟩
    ·simp only[hb,cond_false]at hz1
     refine rD 6 ?_;refine rS ?_;refine AWP.cond rfl (fun hb => ?_) (fun hb => ?_)
     ·simp only[hb,cond_true]at hz1
      refine rS ?_;refine AWP.ret ?_;subst hz1;dsimp only at hR;subst hR;exact⟨[0,1,2,5],sm⟩
     ·simp only[hb,cond_false]at hz1
      iterate 2 refine rS ?_
      exact⟨_,[0,1,2,5],hlt1,by(have h9:=(yjc s1.1).2;have h8:=y6q ((zn s1.1).1) (((zn s1.1).2.1) != (zz ((zn s1.1).1))) s1.2.2 s1.2.1;have h6:=hW1;dsimp only;exact⟨by omega,by omega⟩),hz1,sm⟩
   ·obtain rfl:i1=((zjb ((zd a0 [10]).1)).1).toNat:=ot
    rw[yl (Nat.le_refl _)]at hz1;subst hz1;dsimp only at hR;refine AWP.exit ?_;refine yb ?_;refine rS ?_;refine AWP.cond rfl (fun hb => ?_) (fun hb => ?_)
    ·replace hR:=ct hR
     refine rS ?_;refine AWP.ret ?_;subst hR;exact⟨[0,1,2,3],sm⟩
    ·replace hR:=cf hR
     refine rS ?_;refine AWP.ret ?_;subst hR;exact⟨[0,1,2,3],sm⟩
end N_zxb
def D_zxb : DHF
 | [x0,(.fn f28_1 kf28_1 [.ptr 1 0,.ptr 2 0])],[.arr 2 1 hm hF,.box [.ref 0 1 0 hn],.box [y3]]=>some (.int .i64 ((zxb (rdS x0) (decL yhb hm hF) (rdI y3)).1),[.dead,.box [.ref 3 1 0 ((zxb (rdS x0) (decL yhb hm hF) (rdI y3)).2.1).length],.box [.int .i64 ((zxb (rdS x0) (decL yhb hm hF) (rdI y3)).2.2)],.arr 2 1 ((zxb (rdS x0) (decL yhb hm hF) (rdI y3)).2.1).length (fun j=>yv (((zxb (rdS x0) (decL yhb hm hF) (rdI y3)).2.1).getD j default))],[wS x0,f28_1=28,kf28_1=0,(rdS x0).length<1099511627776,(rdS x0).length<=1048576,(decL yhb hm hF).length=0,hn=hm,∀ i,i<hm->hF i=yv ((decL yhb hm hF).getD i default),y3=.int .i64 (rdI y3)])
 | _,_=>none
theorem yp2:OkH Tryz.prog 26 D_zxb:=by
 intro xs h r h' ob h0 ho;unfold D_zxb at h0;split at h0
 ·rename_i x0 f28_1 kf28_1 hm hF hn y3
  simp only[Option.some.injEq,Prod.mk.injEq]at h0;obtain⟨rfl,rfl,rfl⟩:=h0;obtain⟨h0,qf28_1,qkf28_1,hb0,hp0,hp1,qn,qF,qi0,_⟩:=ho;subst qn;have hl:(decL yhb hn hF).length=hn:=ycf _ _ _;have hd:=@N_zxb.den (rdS x0) (decL yhb hn hF) (rdI y3) hF (by assumption) (by assumption) (by assumption) (by rw[hl];exact qF);rw[hl]at hd;rw[<- qi0]at hd;exact DenH.sim hd (yh (ycb h0).1 <| yh (by subst qf28_1 qkf28_1;exact yec _) <| trivial)
 ·cases h0
def zpe (a0:(List UInt8)):((List Int)×Int):=
 (bif (((zxb a0 ([]:List Int) 0).1) != 0)then([],(zxb a0 ([]:List Int) 0).1)else((zxb a0 ([]:List Int) 0).2.1,0))
namespace N9
theorem DD:DOk Tryz.prog (Go.Ab.DD [(26,dH D_zxb)]):=ya yp2.e <| yd _
theorem dn:type_of% (@D_zxb.eq_1):=by and_intros<;>intros<;>rfl
set_option maxHeartbeats 1000000 in
set_option maxRecDepth 20000 in
theorem den (a0:(List UInt8)) (hb0:a0.length<1099511627776) (hp0:a0.length<=1048576):Den Tryz.prog 9 [.str a0] (.tup [ownL 2 1 yv ((zpe a0).1),.int .i64 ((zpe a0).2)]):=by
 generalize hR:zpe a0=r;unfold zpe at hR;refine di Tryz.func9 Tryz.ntmps9 Tryz.results9 ?_;intro c hL hc hk;obtain⟨hL0,_⟩:=hL;have hw0:a0.length<9223372036854775808:=Nat.lt_succ_of_le hL0;clear hL0;simp only[pars,Nat.zero_add];iterate 5 refine rS ?_
 refine AWP.cond rfl (fun hb => ?_) (fun hb => ?_)
 ·replace hR:=ct hR
  refine rS ?_;refine AWP.ret ?_;subst hR;exact es
 ·replace hR:=cf hR
  refine rS ?_;refine AWP.ret ?_;subst hR;exact es
end N9
def D_zpe : DF
 | [x0]=>some (.tup [ownL 2 1 yv ((zpe (rdS x0)).1),.int .i64 ((zpe (rdS x0)).2)],false,[wS x0,(rdS x0).length<1099511627776,(rdS x0).length<=1048576])
 | _=>none
theorem yb3:OkD Tryz.prog 9 D_zpe:=by unfold D_zpe;exact dk N9.den
def yfl (a0:(List UInt8)) (a2:(List Item)) (i1:Nat) (s1:List UInt8×List Item):Except (Int×(List Item)) (List UInt8×List Item):=
 (bif (((zn s1.1).2.2.2) != 0)then .error ((zn s1.1).2.2.2,s1.2)else(bif (((zkd ((zn s1.1).1) (((zn s1.1).2.1) != (zz ((zn s1.1).1))) s1.2).1) != 0)then .error ((zkd ((zn s1.1).1) (((zn s1.1).2.1) != (zz ((zn s1.1).1))) s1.2).1,(zkd ((zn s1.1).1) (((zn s1.1).2.1) != (zz ((zn s1.1).1))) s1.2).2)else .ok ((zn s1.1).2.2.1,(zkd ((zn s1.1).1) (((zn s1.1).2.1) != (zz ((zn s1.1).1))) s1.2).2)))
def zfc (a0:(List UInt8)) (a2:(List Item)):Int×(List Item):=
 (bif (!((zd a0 [10]).2.2))then(11,a2)else(bif (!((zjb ((zd a0 [10]).1)).2))then(9,a2)else(match yf (yfl a0 a2) (((zjb ((zd a0 [10]).1)).1).toNat-0) 0 ((zd a0 [10]).2.1,a2)with|.error e=>e|.ok s1=>(bif (s1.1 != [])then(9,s1.2)else(0,s1.2)))))
namespace N_zfc
theorem DD:DOk Tryz.prog (Go.Ab.DD [(25,dP D_zz),(29,dH D_zkd),(49,dP D_zd),(50,dP D_zjb),(51,dP D_zn)]):=ya y8n.e <| ya yh0.e <| ya yke.e <| ya ytm.e <| ya yus.e <| yd _
theorem dn:type_of% (And.intro @D_zz.eq_1 <| And.intro @D_zkd.eq_1 <| And.intro @D_zd.eq_1 <| And.intro @D_zjb.eq_1 <| @D_zn.eq_1):=by and_intros<;>intros<;>rfl
theorem gr {p:Prop} (h:p:=by(grind [ykc]);first|done|fail):p:=h
theorem o0 {p:Prop} (h:p:=by(first|(have h9:=(yjc s1.1);have h7:=ybk hW1.1;have h6:=hrc (by assumption);have h5:=hW1.2;have h8:=ygq ((zn s1.1).1) (((zn s1.1).2.1) != (zz ((zn s1.1).1))) s1.2;(repeat' with_reducible apply And.intro)<;>first|with_reducible assumption|omega|(simp only[List.length_append,List.length_cons,List.length_nil,List.length_singleton];omega))|(have h7:=hrc (by assumption);(repeat' with_reducible apply And.intro)<;>first|with_reducible assumption|omega|(simp only[List.length_append,List.length_cons,List.length_nil,List.length_singleton];omega))|((repeat' with_reducible apply And.intro)<;>first|with_reducible assumption|omega|(simp only[List.length_append,List.length_cons,List.length_nil,List.length_singleton];omega)));first|done|fail):p:=h
set_option maxHeartbeats 1000000 in
set_option maxRecDepth 20000 in
theorem den (a0:(List UInt8)) (a2:(List Item)) (F:Nat->List AV) (hb0:a0.length<1099511627776) (hp0:a0.length<=1048576) (hp1:a2.length=0) (hF:∀ i,i<a2.length->F i=yr (a2.getD i default)):DenH Tryz.prog 26 [.str a0,.fn 29 0 [.ptr 1 0]] [.arr 38 2 a2.length F,.box [.ref 0 2 0 a2.length]] (.int .i64 ((zfc a0 a2).1)) [.dead,.box [.ref 2 2 0 ((zfc a0 a2).2).length],.arr 38 2 ((zfc a0 a2).2).length (fun j=>yr (((zfc a0 a2).2).getD j default))]:=by
 generalize hR:zfc a0 a2=r;unfold zfc at hR;refine yad (k:=2) (slot:=4) G_ok Tryz.func26 (by kernel_rfl) rfl Tryz.ntmps26 (by rw[Tryz.results26]) (by simp) rfl ?_;intro c hL hc hk;obtain⟨hL0,hL1,_⟩:=hL;have hw0:a0.length<9223372036854775808:=Nat.lt_succ_of_le hL0;clear hL0 hL1;simp only[pars,Nat.zero_add,Nat.reduceAdd];refine AWP.simD (s':=⟨[(0,.str a0),(1,.fn 29 0 [.ptr 1 0])],[.dead,.box [.ref 2 2 0 a2.length],.arr 38 2 a2.length (fun j=>yr (a2.getD j default))]⟩) [0,1,0] ?_ (by rw[hk];exact⟨rfl,rfl,by simp[livL],by simp only[si,ea,gv,sv,hk,reduceCtorEq,reduceIte,Nat.reduceBEq,Nat.reduceAdd,Nat.reduceEqDiff,Nat.reduceLT,Nat.reduceLeDiff,Nat.reduceMul,Nat.reduceSub,BEq.rfl,beq_self_eq_true,Int.reduceToNat];first|exact hF|exact fun i hi=>⟨hF i hi,rfl⟩|(refine⟨?_,?_⟩<;>first|trivial|exact hF),by simp only[si,ea,gv,sv,hk,reduceCtorEq,reduceIte,Nat.reduceBEq,Nat.reduceAdd,Nat.reduceEqDiff,Nat.reduceLT,Nat.reduceLeDiff,Nat.reduceMul,Nat.reduceSub,BEq.rfl,beq_self_eq_true,Int.reduceToNat]<;>trivial⟩);have c1:=ykc a0 [10];have hrc:=fun h=>y9h (a:=(zd a0 [10]).1) h
 iterate 3 refine rS ?_
 refine AWP.cond rfl (fun hb => ?_) (fun hb => ?_)
 ·replace hR:=ct hR
  refine rS ?_;refine AWP.ret ?_;subst hR;exact⟨[0,1,2],sm⟩
 ·replace hR:=cf hR
  iterate 2 refine rS ?_
  refine AWP.cond rfl (fun hb => ?_) (fun hb => ?_)
  ·replace hR:=ct hR
   refine rS ?_;refine AWP.ret ?_;subst hR;exact⟨[0,1,2],sm⟩
  ·replace hR:=cf hR
   refine rS ?_;refine AWP.block ?_;generalize hz1:yf (yfl a0 a2) (((zjb ((zd a0 [10]).1)).1).toNat-0) 0 ((zd a0 [10]).2.1,a2)=z1 at hR;refine AWP.range (yfl a0 a2) (fun i1 s1=>⟨[(1,.fn 29 0 [.ptr 1 0]),(6,.str s1.1),(30,.int .i64 ((zjb ((zd a0 [10]).1)).1)),(31,.int .i64 (i1:Int))],[.dead,.box [.ref 2 2 0 s1.2.length],.arr 38 2 s1.2.length (fun j=>yr (s1.2.getD j default))]⟩) (fun i1 s1=>s1.1.length<=1048576/\s1.2.length<=i1) (((zjb ((zd a0 [10]).1)).1).toNat) 0 ((zd a0 [10]).2.1,a2) [0,1,2] hz1 ot (by(dsimp only;exact⟨by omega,by omega⟩)) sm ?_;clear hz1;intro i1 s1 hi1 hW1 hz1;refine rS ?_;refine AWP.seq ?_;refine AWP.cond rfl (fun hb => ?_) (fun hb => ?_)
   ·have hlt1:i1<((zjb ((zd a0 [10]).1)).1).toNat:=ot
    rw[yk hlt1]at hz1;simp only[yfl]at hz1;iterate 2 refine rS ?_
    refine AWP.cond rfl (fun hb => ?_) (fun hb => ?_)
    ·simp only[hb,cond_true]at hz1
     refine rS ?_;refine AWP.ret ?_;subst hz1;dsimp only at hR;subst hR;exact⟨[0,1,2],sm⟩
    ·simp only[hb,cond_false]at hz1
     refine rD 6 ?_;refine rS ?_;refine AWP.cond rfl (fun hb => ?_) (fun hb => ?_)
     ·simp only[hb,cond_true]at hz1
      refine rS ?_;refine AWP.ret ?_;subst hz1;dsimp only at hR;subst hR;exact⟨[0,1,4],sm⟩
     ·simp only[hb,cond_false]at hz1
      iterate 2 refine rS ?_
      exact⟨_,[0,1,4],hlt1,by(have h9:=(yjc s1.1).2;have h8:=ygq ((zn s1.1).1) (((zn s1.1).2.1) != (zz ((zn s1.1).1))) s1.2;have h6:=hW1;dsimp only;exact⟨by omega,by omega⟩),hz1,sm⟩
   ·obtain rfl:i1=((zjb ((zd a0 [10]).1)).1).toNat:=ot
    rw[yl (Nat.le_refl _)]at hz1;subst hz1;dsimp only at hR;refine AWP.exit ?_;refine yb ?_;refine rS ?_;refine AWP.cond rfl (fun hb => ?_) (fun hb => ?_)
    ·replace hR:=ct hR
     refine rS ?_;refine AWP.ret ?_;subst hR;exact⟨[0,1,2],sm⟩
    ·replace hR:=cf hR
     refine rS ?_;refine AWP.ret ?_;subst hR;exact⟨[0,1,2],sm⟩
end N_zfc
def D_zfc : DHF
 | [x0,(.fn f29_1 kf29_1 [.ptr 1 0])],[.arr 38 2 hm hF,.box [.ref 0 2 0 hn]]=>some (.int .i64 ((zfc (rdS x0) (decL yp hm hF)).1),[.dead,.box [.ref 2 2 0 ((zfc (rdS x0) (decL yp hm hF)).2).length],.arr 38 2 ((zfc (rdS x0) (decL yp hm hF)).2).length (fun j=>yr (((zfc (rdS x0) (decL yp hm hF)).2).getD j default))],[wS x0,f29_1=29,kf29_1=0,(rdS x0).length<1099511627776,(rdS x0).length<=1048576,(decL yp hm hF).length=0,hn=hm,∀ i,i<hm->hF i=yr ((decL yp hm hF).getD i default)])
 | _,_=>none
theorem yt1:OkH Tryz.prog 26 D_zfc:=by
 intro xs h r h' ob h0 ho;unfold D_zfc at h0;split at h0
 ·rename_i x0 f29_1 kf29_1 hm hF hn
  simp only[Option.some.injEq,Prod.mk.injEq]at h0;obtain⟨rfl,rfl,rfl⟩:=h0;obtain⟨h0,qf29_1,qkf29_1,hb0,hp0,hp1,qn,qF,_⟩:=ho;subst qn;have hl:(decL yp hn hF).length=hn:=ycf _ _ _;have hd:=@N_zfc.den (rdS x0) (decL yp hn hF) hF (by assumption) (by assumption) (by assumption) (by rw[hl];exact qF);rw[hl]at hd;exact DenH.sim hd (yh (ycb h0).1 <| yh (by subst qf29_1 qkf29_1;exact yec _) <| trivial)
 ·cases h0
def zqe (a0:(List UInt8)):((List Item)×Int):=
 (bif (((zfc a0 ([]:List Item)).1) != 0)then([],(zfc a0 ([]:List Item)).1)else((zfc a0 ([]:List Item)).2,0))
namespace N10
theorem DD:DOk Tryz.prog (Go.Ab.DD [(26,dH D_zfc)]):=ya yt1.e <| yd _
theorem dn:type_of% (@D_zfc.eq_1):=by and_intros<;>intros<;>rfl
set_option maxHeartbeats 1000000 in
set_option maxRecDepth 20000 in
theorem den (a0:(List UInt8)) (hb0:a0.length<1099511627776) (hp0:a0.length<=1048576):Den Tryz.prog 10 [.str a0] (.tup [ownL 38 2 yr ((zqe a0).1),.int .i64 ((zqe a0).2)]):=by
 generalize hR:zqe a0=r;unfold zqe at hR;refine di Tryz.func10 Tryz.ntmps10 Tryz.results10 ?_;intro c hL hc hk;obtain⟨hL0,_⟩:=hL;have hw0:a0.length<9223372036854775808:=Nat.lt_succ_of_le hL0;clear hL0;simp only[pars,Nat.zero_add];iterate 4 refine rS ?_
 refine AWP.cond rfl (fun hb => ?_) (fun hb => ?_)
 ·replace hR:=ct hR
  refine rS ?_;refine AWP.ret ?_;subst hR;exact es
 ·replace hR:=cf hR
  refine rS ?_;refine AWP.ret ?_;subst hR;exact es
end N10
def D_zqe : DF
 | [x0]=>some (.tup [ownL 38 2 yr ((zqe (rdS x0)).1),.int .i64 ((zqe (rdS x0)).2)],false,[wS x0,(rdS x0).length<1099511627776,(rdS x0).length<=1048576])
 | _=>none
theorem yi0:OkD Tryz.prog 10 D_zqe:=by unfold D_zqe;exact dk N10.den
def zhf (a0:(List UInt8)):(Int×Bool):=
 ((zfd ((zhc a0 [110]).1)).1,((((zhc a0 [110]).2 && (zfd ((zhc a0 [110]).1)).2) && ((((zhc a0 [110]).1).length:Int) == 4)) && decide (0<((zfd ((zhc a0 [110]).1)).1))))
namespace N36
theorem DD:DOk Tryz.prog (Go.Ab.DD [(63,dP D_zhc),(64,dP D_zfd)]):=ya yrt.e <| ya ykz.e <| yd _
theorem dn:type_of% (And.intro @D_zhc.eq_1 <| @D_zfd.eq_1):=by and_intros<;>intros<;>rfl
theorem den (a0:(List UInt8))  : Den Tryz.prog 36 [.str a0] (.tup [.int .i64 ((zhf a0).1),.bool ((zhf a0).2)]):=by
 generalize hR:zhf a0=r;unfold zhf at hR;refine di Tryz.func36 Tryz.ntmps36 Tryz.results36 ?_;intro c hL hc hk;obtain⟨hL0,_⟩:=hL;have hw0:a0.length<9223372036854775808:=Nat.lt_succ_of_le hL0;clear hL0;simp only[pars,Nat.zero_add];iterate 4 refine rS ?_
 refine AWP.ret ?_;subst hR;exact es
end N36
def D_zhf : DF
 | [x0]=>some (.tup [.int .i64 ((zhf (rdS x0)).1),.bool ((zhf (rdS x0)).2)],false,[wS x0])
 | _=>none
theorem yu0:OkD Tryz.prog 36 D_zhf:=by unfold D_zhf;exact dk N36.den
def yul (a0:(List Sector)) (a1:(List Sector)) (i1:Nat) (s1:Unit):Except (Bool) (Unit):=
 (bif (!(((a0.getD i1 default).From) == ((a1.getD i1 default).From) && (((a0.getD i1 default).To) == ((a1.getD i1 default).To) && ((a0.getD i1 default).Color) == ((a1.getD i1 default).Color))))then .error false else .ok ())
def zie (a0:(List Sector)) (a1:(List Sector)):Bool:=
 (bif ((a0.length:Int) != (a1.length:Int))then false else(match yf (yul a0 a1) (a0.length-0) 0 ()with|.error e=>e|.ok s1=>true))
namespace N72
theorem DD:DOk Tryz.prog (Go.Ab.DD []):=yd _
theorem den (a0:(List Sector)) (a1:(List Sector))  : Den Tryz.prog 72 [encL 3 yx a0,encL 3 yx a1] (.bool (zie a0 a1)):=by
 generalize hR:zie a0 a1=r;unfold zie at hR;refine di Tryz.func72 Tryz.ntmps72 Tryz.results72 ?_;intro c hL hc hk;obtain⟨hL0,hL1,_⟩:=hL;have hw0:a0.length<9223372036854775808:=Nat.lt_succ_of_le (yc hL0).1;have hw1:∀ v∈a0,bwSector v:=fun v hv=>yob v ((yc hL0).2 v hv)
 have hw2:a1.length<9223372036854775808:=Nat.lt_succ_of_le (yc hL1).1;have hw3:∀ v∈a1,bwSector v:=fun v hv=>yob v ((yc hL1).2 v hv)
 clear hL0 hL1;simp only[pars,Nat.zero_add];iterate 2 refine rS ?_
 refine AWP.cond rfl (fun hb => ?_) (fun hb => ?_)
 ·replace hR:=ct hR
  refine rS ?_;refine AWP.ret ?_;subst hR;exact es
 ·replace hR:=cf hR
  refine rS ?_;refine AWP.block ?_;generalize hz1:yf (yul a0 a1) (a0.length-0) 0 ()=z1 at hR;refine AWP.range (yul a0 a1) (fun i1 s1=>⟨[(0,encL 3 yx a0),(1,encL 3 yx a1),(12,.int .i64 (a0.length:Int)),(13,.int .i64 (i1:Int))],[]⟩) (fun i1 s1=>True) (a0.length) 0 () [] hz1 ot wt sm ?_;clear hz1;intro i1 s1 hi1 hW1 hz1;refine rS ?_;refine AWP.seq ?_;refine AWP.cond rfl (fun hb => ?_) (fun hb => ?_)
  ·have hlt1:i1<a0.length:=ot
   rw[yk hlt1]at hz1;simp only[yul]at hz1;refine rS ?_;refine rD 8 ?_;refine AWP.cond rfl (fun hb => ?_) (fun hb => ?_)
   ·simp only[hb,cond_true]at hz1
    refine rS ?_;refine AWP.ret ?_;subst hz1;dsimp only at hR;subst hR;exact es
   ·simp only[hb,cond_false]at hz1
    refine rS ?_;exact⟨_,[],hlt1,wt,hz1,sm⟩
  ·obtain rfl:i1=a0.length:=ot
   rw[yl (Nat.le_refl _)]at hz1;subst hz1;dsimp only at hR;refine AWP.exit ?_;refine yb ?_;refine rS ?_;refine AWP.ret ?_;subst hR;exact es
end N72
def D_zie : DF
 | [x0,x1]=>some (.bool (zie (rdL yab x0) (rdL yab x1)),false,[wL 3 yx yab x0,wL 3 yx yab x1])
 | _=>none
theorem y6z:OkD Tryz.prog 72 D_zie:=by unfold D_zie;exact dk N72.den
theorem ygy (a b:Sector):(a.From == b.From && (a.To == b.To && a.Color == b.Color))=decide (a=b):=by
 cases a;cases b
 apply Bool.eq_iff_iff.2;simp[Sector.mk.injEq]
theorem ykj (a b:List Sector):zie a b=decide (a=b):=by
 unfold zie;by_cases hl:a.length=b.length
 ·have h1:((a.length:Int) != (b.length:Int))=false:=by simp[hl]
  rw[h1,cond_false,ydd (b:=yul a b) (fun j => !decide (a.getD j default=b.getD j default)) false (fun j u _ _=>by simp only[yul,ygy])];simp only[Nat.sub_zero,Nat.zero_add];rw[yuy a b hl];by_cases h:a=b<;>simp[h]
 ·have h1:((a.length:Int) != (b.length:Int))=true:=by simp;omega
  have h2:¬ a=b:=fun e=>hl (by rw[e])
  rw[h1,cond_true,decide_eq_false h2]
def zgg (a0:Aid) (a1:Aid):Bool:=
 ((((((((a0.Number == a1.Number) && (a0.Name == a1.Name)) && (a0.At.X == a1.At.X && a0.At.Y == a1.At.Y)) && (a0.Height == a1.Height)) && (a0.Mark.Kind == a1.Mark.Kind && (a0.Mark.Colors == a1.Mark.Colors && (a0.Mark.Shape == a1.Mark.Shape && a0.Mark.Topmark == a1.Mark.Topmark)))) && (zff a0.Light a1.Light)) && (zie a0.Sectors a1.Sectors)) && (a0.Intensity == a1.Intensity))
namespace N39
theorem DD:DOk Tryz.prog (Go.Ab.DD [(71,dP D_zff),(72,dP D_zie)]):=ya yht.e <| ya y6z.e <| yd _
theorem dn:type_of% (And.intro @D_zff.eq_1 <| @D_zie.eq_1):=by and_intros<;>intros<;>rfl
set_option maxHeartbeats 4000000 in
set_option maxRecDepth 20000 in
theorem den (a0:Aid) (a1:Aid)  : Den Tryz.prog 39 [.agg (eAid a0),.agg (eAid a1)] (.bool (zgg a0 a1)):=by
 generalize hR:zgg a0 a1=r;unfold zgg at hR;refine di Tryz.func39 Tryz.ntmps39 Tryz.results39 ?_;intro c hL hc hk;obtain⟨hL0,hL1,_⟩:=hL;have hw0:bwAid a0:=ylb a0 hL0;have hw1:bwAid a1:=ylb a1 hL1;clear hL0 hL1;simp only[pars,Nat.zero_add];iterate 2 refine rS ?_
 refine AWP.ret ?_;subst hR;exact es
end N39
def D_zgg : DF
 | [x0,x1]=>some (.bool (zgg (rdG dAid x0) (rdG dAid x1)),false,[wG eAid dAid x0,wG eAid dAid x1])
 | _=>none
theorem yf2:OkD Tryz.prog 39 D_zgg:=by unfold D_zgg;exact dk N39.den
def y2q (a0:(List Aid)) (a1:(List Aid)) (i1:Nat) (s1:Unit):Except (Bool) (Unit):=
 (bif (!(zgg (a0.getD i1 default) (a1.getD i1 default)))then .error false else .ok ())
def zyd (a0:(List Aid)) (a1:(List Aid)):Bool:=
 (bif ((a0.length:Int) != (a1.length:Int))then false else(match yf (y2q a0 a1) (a0.length-0) 0 ()with|.error e=>e|.ok s1=>true))
namespace N_zyd
theorem DD:DOk Tryz.prog (Go.Ab.DD [(39,dP D_zgg)]):=ya yf2.e <| yd _
theorem dn:type_of% (@D_zgg.eq_1):=by and_intros<;>intros<;>rfl
theorem den (a0:(List Aid)) (a1:(List Aid))  : Den Tryz.prog 38 [encL 16 eAid a0,encL 16 eAid a1,.fn 39 0 []] (.bool (zyd a0 a1)):=by
 generalize hR:zyd a0 a1=r;unfold zyd at hR;refine di Tryz.func38 Tryz.ntmps38 Tryz.results38 ?_;intro c hL hc hk;obtain⟨hL0,hL1,hL2,_⟩:=hL;have hw0:a0.length<9223372036854775808:=Nat.lt_succ_of_le (yc hL0).1;have hw1:∀ v∈a0,bwAid v:=fun v hv=>ylb v ((yc hL0).2 v hv)
 have hw2:a1.length<9223372036854775808:=Nat.lt_succ_of_le (yc hL1).1;have hw3:∀ v∈a1,bwAid v:=fun v hv=>ylb v ((yc hL1).2 v hv)
 clear hL0 hL1 hL2;simp only[pars,Nat.zero_add];iterate 2 refine rS ?_
 refine AWP.cond rfl (fun hb => ?_) (fun hb => ?_)
 ·replace hR:=ct hR
  refine rS ?_;refine AWP.ret ?_;subst hR;exact es
 ·replace hR:=cf hR
  refine rS ?_;refine AWP.block ?_;generalize hz1:yf (y2q a0 a1) (a0.length-0) 0 ()=z1 at hR;refine AWP.range (y2q a0 a1) (fun i1 s1=>⟨[(1,encL 16 eAid a1),(2,.fn 39 0 []),(15,encL 16 eAid a0),(16,.int .i64 (a0.length:Int)),(17,.int .i64 (i1:Int))],[]⟩) (fun i1 s1=>True) (a0.length) 0 () [] hz1 ot wt sm ?_;clear hz1;intro i1 s1 hi1 hW1 hz1;refine rS ?_;refine AWP.seq ?_;refine AWP.cond rfl (fun hb => ?_) (fun hb => ?_)
  ·have hlt1:i1<a0.length:=ot
   rw[yk hlt1]at hz1;simp only[y2q]at hz1;iterate 3 refine rS ?_
   refine AWP.cond rfl (fun hb => ?_) (fun hb => ?_)
   ·simp only[hb,cond_true]at hz1
    refine rS ?_;refine AWP.ret ?_;subst hz1;dsimp only at hR;subst hR;exact es
   ·simp only[hb,cond_false]at hz1
    refine rS ?_;exact⟨_,[],hlt1,wt,hz1,sm⟩
  ·obtain rfl:i1=a0.length:=ot
   rw[yl (Nat.le_refl _)]at hz1;subst hz1;dsimp only at hR;refine AWP.exit ?_;refine yb ?_;refine rS ?_;refine AWP.ret ?_;subst hR;exact es
end N_zyd
def D_zyd : DF
 | [x0,x1,(.fn f39_2 kf39_2 [])]=>some (.bool (zyd (rdL dAid x0) (rdL dAid x1)),false,[wL 16 eAid dAid x0,wL 16 eAid dAid x1,f39_2=39,kf39_2=0])
 | _=>none
theorem yu3:OkD Tryz.prog 38 D_zyd:=by
 intro xs r z ob h ho;unfold D_zyd at h;split at h
 ·simp only[Option.some.injEq,Prod.mk.injEq]at h
  obtain⟨rfl,rfl,rfl⟩:=h;obtain⟨h0,h1,qf39_2,qkf39_2,_⟩:=ho;exact Den.sim (N_zyd.den _ _ ) (yh (y2g h0).1 <| yh (y2g h1).1 <| yh (by subst qf39_2 qkf39_2;exact yec _) <| trivial) (yw (y2g h0).2 <| yw (y2g h1).2 <| yw (by rfl) <| rfl) rfl
 ·cases h
def zmf (a0:(List Aid)) (a1:(List Aid)):Bool:=
 (zyd a0 a1)
namespace N16
theorem DD:DOk Tryz.prog (Go.Ab.DD [(38,dP D_zyd)]):=ya yu3.e <| yd _
theorem dn:type_of% (@D_zyd.eq_1):=by and_intros<;>intros<;>rfl
theorem den (a0:(List Aid)) (a1:(List Aid))  : Den Tryz.prog 16 [encL 16 eAid a0,encL 16 eAid a1] (.bool (zmf a0 a1)):=by
 generalize hR:zmf a0 a1=r;unfold zmf at hR;refine di Tryz.func16 Tryz.ntmps16 Tryz.results16 ?_;intro c hL hc hk;obtain⟨hL0,hL1,_⟩:=hL;have hw0:a0.length<9223372036854775808:=Nat.lt_succ_of_le (yc hL0).1;have hw1:∀ v∈a0,bwAid v:=fun v hv=>ylb v ((yc hL0).2 v hv)
 have hw2:a1.length<9223372036854775808:=Nat.lt_succ_of_le (yc hL1).1;have hw3:∀ v∈a1,bwAid v:=fun v hv=>ylb v ((yc hL1).2 v hv)
 clear hL0 hL1;simp only[pars,Nat.zero_add];iterate 2 refine rS ?_
 refine AWP.ret ?_;subst hR;exact es
end N16
def D_zmf : DF
 | [x0,x1]=>some (.bool (zmf (rdL dAid x0) (rdL dAid x1)),false,[wL 16 eAid dAid x0,wL 16 eAid dAid x1])
 | _=>none
theorem yh3:OkD Tryz.prog 16 D_zmf:=by unfold D_zmf;exact dk N16.den
def yxq (a0:(List Item)) (a1:(List Item)) (i1:Nat) (s1:Unit):Except (Bool) (Unit):=
 (bif (!(((a0.getD i1 default).Key) == ((a1.getD i1 default).Key) && ((a0.getD i1 default).Text) == ((a1.getD i1 default).Text)))then .error false else .ok ())
def zwe (a0:(List Item)) (a1:(List Item)):Bool:=
 (bif ((a0.length:Int) != (a1.length:Int))then false else(match yf (yxq a0 a1) (a0.length-0) 0 ()with|.error e=>e|.ok s1=>true))
namespace N30
theorem DD:DOk Tryz.prog (Go.Ab.DD []):=yd _
theorem den (a0:(List Item)) (a1:(List Item))  : Den Tryz.prog 30 [encL 2 yr a0,encL 2 yr a1] (.bool (zwe a0 a1)):=by
 generalize hR:zwe a0 a1=r;unfold zwe at hR;refine di Tryz.func30 Tryz.ntmps30 Tryz.results30 ?_;intro c hL hc hk;obtain⟨hL0,hL1,_⟩:=hL;have hw0:a0.length<9223372036854775808:=Nat.lt_succ_of_le (yc hL0).1;have hw1:∀ v∈a0,bwItem v:=fun v hv=>y6 v ((yc hL0).2 v hv)
 have hw2:a1.length<9223372036854775808:=Nat.lt_succ_of_le (yc hL1).1;have hw3:∀ v∈a1,bwItem v:=fun v hv=>y6 v ((yc hL1).2 v hv)
 clear hL0 hL1;simp only[pars,Nat.zero_add];iterate 2 refine rS ?_
 refine AWP.cond rfl (fun hb => ?_) (fun hb => ?_)
 ·replace hR:=ct hR
  refine rS ?_;refine AWP.ret ?_;subst hR;exact es
 ·replace hR:=cf hR
  refine rS ?_;refine AWP.block ?_;generalize hz1:yf (yxq a0 a1) (a0.length-0) 0 ()=z1 at hR;refine AWP.range (yxq a0 a1) (fun i1 s1=>⟨[(0,encL 2 yr a0),(1,encL 2 yr a1),(12,.int .i64 (a0.length:Int)),(13,.int .i64 (i1:Int))],[]⟩) (fun i1 s1=>True) (a0.length) 0 () [] hz1 ot wt sm ?_;clear hz1;intro i1 s1 hi1 hW1 hz1;refine rS ?_;refine AWP.seq ?_;refine AWP.cond rfl (fun hb => ?_) (fun hb => ?_)
  ·have hlt1:i1<a0.length:=ot
   rw[yk hlt1]at hz1;simp only[yxq]at hz1;refine rS ?_;refine rD 8 ?_;refine AWP.cond rfl (fun hb => ?_) (fun hb => ?_)
   ·simp only[hb,cond_true]at hz1
    refine rS ?_;refine AWP.ret ?_;subst hz1;dsimp only at hR;subst hR;exact es
   ·simp only[hb,cond_false]at hz1
    refine rS ?_;exact⟨_,[],hlt1,wt,hz1,sm⟩
  ·obtain rfl:i1=a0.length:=ot
   rw[yl (Nat.le_refl _)]at hz1;subst hz1;dsimp only at hR;refine AWP.exit ?_;refine yb ?_;refine rS ?_;refine AWP.ret ?_;subst hR;exact es
end N30
def D_zwe : DF
 | [x0,x1]=>some (.bool (zwe (rdL yp x0) (rdL yp x1)),false,[wL 2 yr yp x0,wL 2 yr yp x1])
 | _=>none
theorem y61:OkD Tryz.prog 30 D_zwe:=by unfold D_zwe;exact dk N30.den
def zxe (a0:(List Item)) (a1:(List Item)):Bool:=
 (zwe a0 a1)
namespace N11
theorem DD:DOk Tryz.prog (Go.Ab.DD [(30,dP D_zwe)]):=ya y61.e <| yd _
theorem dn:type_of% (@D_zwe.eq_1):=by and_intros<;>intros<;>rfl
theorem den (a0:(List Item)) (a1:(List Item))  : Den Tryz.prog 11 [encL 2 yr a0,encL 2 yr a1] (.bool (zxe a0 a1)):=by
 generalize hR:zxe a0 a1=r;unfold zxe at hR;refine di Tryz.func11 Tryz.ntmps11 Tryz.results11 ?_;intro c hL hc hk;obtain⟨hL0,hL1,_⟩:=hL;have hw0:a0.length<9223372036854775808:=Nat.lt_succ_of_le (yc hL0).1;have hw1:∀ v∈a0,bwItem v:=fun v hv=>y6 v ((yc hL0).2 v hv)
 have hw2:a1.length<9223372036854775808:=Nat.lt_succ_of_le (yc hL1).1;have hw3:∀ v∈a1,bwItem v:=fun v hv=>y6 v ((yc hL1).2 v hv)
 clear hL0 hL1;simp only[pars,Nat.zero_add];iterate 2 refine rS ?_
 refine AWP.ret ?_;subst hR;exact es
end N11
def D_zxe : DF
 | [x0,x1]=>some (.bool (zxe (rdL yp x0) (rdL yp x1)),false,[wL 2 yr yp x0,wL 2 yr yp x1])
 | _=>none
theorem ya0:OkD Tryz.prog 11 D_zxe:=by unfold D_zxe;exact dk N11.den
end Go.Ab
