/- A part of a proof: walks of functions and lemmas of our own. No conditions. -/
import Derived.Test.YtijmcongeemehaaGreatDoorFBc
import Derived.Test.YtijmcongeemehaaGreatDoorFAy
import Derived.Test.YtijmcongeemehaaGreatDoorFAo
import Derived.Test.YtijmcongeemehaaGreatDoorFAl
import Derived.Test.YtijmcongeemehaaGreatDoorFAr
import Derived.Test.YtijmcongeemehaaGreatDoorFAv
import Derived.Test.YtijmcongeemehaaGreatDoorFBe
import Derived.Test.YtijmcongeemehaaGreatDoorFBb
import Derived.Test.YtijmcongeemehaaGreatDoorFAx
import Derived.Test.YtijmcongeemehaaGreatDoorFAp
import Derived.Test.YtijmcongeemehaaGreatDoorFAs
import Derived.Test.YtijmcongeemehaaGreatDoorFBd
import Derived.Test.YtijmcongeemehaaGreatDoorFAq
import Derived.Test.YtijmcongeemehaaGreatDoorFAu
import Derived.Test.YtijmcongeemehaaGreatDoorFAk
import Derived.Test.YtijmcongeemehaaGreatDoorFAt
import Derived.Test.YtijmcongeemehaaGreatDoorFAw
set_option linter.unusedSectionVars false
set_option linter.unusedVariables false
set_option linter.unusedSimpArgs false
set_option maxHeartbeats 1000000
namespace Go.Ab
open Go Go.Proofs
theorem y3z (l:List Aid) (a:Aid) (hl:l.length<9223372036854775807) (hv:∀ v∈l,aidL v) (ha:aidL a):zcc l a=bif ((!(zmc l)) || (!(zmb a)))then([],1)else(bif (hasN l a.Number)then([],4)else(bif ((l.length:Int) == 24)then([],5)else(putA l a,0))):=by
 unfold zcc;rw[y0c l hv,y8b a ha.1 ha.2,ywe l _ (by omega)];simp only[yeb,ysc,zjf,Int.toNat_natCast,putA]
theorem yp5 (P:Aid->Prop) {l:List Aid} {a:Aid} (hl:okP P l) (ha:zmb a=true/\P a) (hn:hasN l a.Number=true):okP P (l.set (upto l a.Number) a):=by
 have hl':=hl.1.2.2;obtain⟨hu,hnum⟩:=ybx hn
 have hmem:∀ v,v∈l.set (upto l a.Number) a->v∈l\/v=a:=fun v hv=>by
  rcases List.mem_or_eq_of_mem_set hv with h|h
  ·exact .inl h
  ·exact .inr h
 have hN:∀ j,((l.set (upto l a.Number) a).getD j default).Number=(l.getD j default).Number:=by
  intro j;by_cases hj:j=upto l a.Number
  ·subst hj
   rw[hnum,List.getD_eq_getElem?_getD,List.getElem?_set_self hu];rfl
  ·rw[List.getD_eq_getElem?_getD,List.getElem?_set_ne (by omega), <- List.getD_eq_getElem?_getD]
 refine⟨⟨fun v hv => ?_,?_,by simpa using hl'⟩,fun v hv => ?_⟩
 ·rcases hmem v hv with h|rfl
  ·exact hl.1.1 v h
  ·exact ha.1
 ·rw[yg4 ltA yiq]
  intro j hj;unfold ltA;rw[hN,hN];exact yky hl.1.2.1 (by omega) (by simpa using hj)
 ·rcases hmem v hv with h|rfl
  ·exact hl.2 v h
  ·exact ha.2
theorem ya3 (P:Aid->Prop) {l:List Aid} {a:Aid} (hl:okP P l) (ha:zmb a=true/\P a) (hn:hasN l a.Number=false) (h24:((l.length:Int) == 24)=false):okP P (putA l a):=by
 refine yfx P hl ha ?_;have:=hl.1.2.2;rw[yal l a (by omega)];change (bif hasN l a.Number then _ else _)=_
 rw[hn,cond_false,h24,cond_false]
theorem y81 (P:Aid->Prop) {l:List Aid} {a:Aid} (hv:∀ v∈l,P v) (ha:P a):(∀ v∈putA l a,P v)/\(putA l a).length=l.length+1:=by
 have hu:=yoe l a.Number;unfold putA;refine⟨fun v h => ?_,by simp;omega⟩;simp only[List.mem_append,List.mem_singleton]at h;rcases h with(h|h)|h
 ·exact hv v (List.mem_of_mem_take h)
 ·subst h;exact ha
 ·exact hv v (List.mem_of_mem_drop h)
theorem y7l (P:Aid->Prop) {l:List Aid} {a:Aid} (hl:l.length<=1000) (hv:∀ v∈l,aidL v) (ha:aidL a):(zcc l a).1=[]/\(zcc l a).2≠0\/okA l/\zmb a=true/\hasN l a.Number=false/\zcc l a=(putA l a,0)/\((l.length:Int) == 24)=false:=by
 rw[y3z l a (by omega) hv ha]
 cases h1:zmc l with
 | false=>left;exact⟨rfl,by simp⟩
 | true=>
  cases h2:zmb a with
  | false=>left;exact⟨rfl,by simp⟩
  | true=>
   cases h3:hasN l a.Number with
   | true=>left;exact⟨rfl,by simp⟩
   | false=>
    cases h4:((l.length:Int) == 24)with
    | true=>left;exact⟨rfl,by simp⟩
    | false=>right;exact⟨(y3h l).1 h1,rfl,rfl,rfl,rfl⟩
def zpc (a0:(List Aid)) (a1:Int):(Aid×Int):=
 (bif (!(zub a0))then({ Number:=0,Name:=[],At:={ X:=0,Y:=0:Point },Height:=0,Mark:={ Kind:=0,Colors:=[],Shape:=[],Topmark:=[]:Mark },Light:={ Kind:=0,Group:=[],Letter:=[],Colors:=[],Period:=0:Character },Sectors:=[],Intensity:=0:Aid },1)else(bif (!((zab a0 a1).2))then({ Number:=0,Name:=[],At:={ X:=0,Y:=0:Point },Height:=0,Mark:={ Kind:=0,Colors:=[],Shape:=[],Topmark:=[]:Mark },Light:={ Kind:=0,Group:=[],Letter:=[],Colors:=[],Period:=0:Character },Sectors:=[],Intensity:=0:Aid },3)else(zdd (a0.getD (((zab a0 a1).1).toNat) default),0)))
namespace N26
theorem DD:DOk Tryz.prog (Go.Ab.DD [(74,dP D_zub),(75,dP D_zab),(78,dP D_zdd)]):=ya yej.e <| ya ypj.e <| ya yuj.e <| ye _
theorem dn:type_of% (And.intro @D_zub.eq_1 <| And.intro @D_zab.eq_1 <| @D_zdd.eq_1):=by and_intros<;>intros<;>rfl
theorem gr {p:Prop} (h:p:=by(grind [y3e,yyi]);first|done|fail):p:=h
theorem o0 {p:Prop} (h:p:=by(first|(have h9:=hix.2.2 (by simpa using ‹(!(zab a0 a1).2)=false›);have h8:=hix.1;(repeat' with_reducible apply And.intro)<;>first|with_reducible assumption|omega|exact hbe _));first|done|fail):p:=h
theorem den (a0:(List Aid)) (a1:Int) (hb0:a0.length<1099511627776) (hb1:∀ v∈a0,bdAid v):Den Tryz.prog 26 [encL 16 eAid a0,.int .i64 a1] (.tup [.agg (yob ((zpc a0 a1).1)),.int .i64 ((zpc a0 a1).2)]):=by
 generalize hR:zpc a0 a1=r;unfold zpc at hR;refine di Tryz.func26 Tryz.ntmps26 Tryz.results26 ?_;intro c hL hc hk;obtain⟨hL0,hL1,_⟩:=hL;have hw0:a0.length<9223372036854775808:=Nat.lt_succ_of_le (yc hL0).1;have hw1:∀ v∈a0,bwAid v:=fun v hv=>y5 v ((yc hL0).2 v hv)
 clear hL0 hL1;simp only[pars,Nat.zero_add];have hix:=yyi a0 a1 hw0;have hbe:∀ i:Nat,bdAid (a0.getD i default):=fun i=>ydg hb1 (by decide) i
 iterate 2 refine rS ?_
 refine AWP.cond rfl (fun hb => ?_) (fun hb => ?_)
 ·replace hR:=ct hR
  refine rS ?_;refine AWP.ret ?_;subst hR;exact es
 ·replace hR:=cf hR
  iterate 2 refine rS ?_
  refine AWP.cond rfl (fun hb => ?_) (fun hb => ?_)
  ·replace hR:=ct hR
   refine rS ?_;refine AWP.ret ?_;subst hR;exact es
  ·replace hR:=cf hR
   refine rS ?_;refine AWP.ret ?_;subst hR;exact es
end N26
def D_zpc : DF
 | [x0,x1]=>some (.tup [.agg (yob ((zpc (rdL dAid x0) (rdI x1)).1)),.int .i64 ((zpc (rdL dAid x0) (rdI x1)).2)],false,[wL 16 eAid dAid x0,wI .i64 x1,(rdL dAid x0).length<1099511627776,∀ v∈(rdL dAid x0),bdAid v])
 | _=>none
theorem yj0:OkD Tryz.prog 26 D_zpc:=by unfold D_zpc;exact dk N26.den
def zpb (a0:(List Int)):((List Aid)×Aid):=
 (bnd ((zeb (zjc a0)).2) fun q2=>(bnd ((zt q2).2) fun q5=>(bnd ((zsb q5 ((zt q2).1)).2) fun q6=>(((zeb (zjc a0)).1),((zsb q5 ((zt q2).1)).1)))))
namespace N24
theorem DD:DOk Tryz.prog (Go.Ab.DD [(38,dP D_zjc),(71,dM [true] D_zeb),(72,dM [true,false] D_zsb),(73,dM [true] D_zt)]):=ya you.e <| ya yst.e <| ya yao.e <| ya y4s.e <| ye _
theorem dn:type_of% (And.intro @D_zjc.eq_1 <| And.intro @D_zeb.eq_1 <| And.intro @D_zsb.eq_1 <| @D_zt.eq_1):=by and_intros<;>intros<;>rfl
theorem o1 {p:Prop} (h:p:=by(first|(with_reducible exact SrcOk.mono (SrcOk.aid hS_q2 (by omega)) (by omega))|(with_reducible exact SrcOk.mono hS_q2 (by omega))|(with_reducible exact SrcOk.mono hS_q4 (by omega))|(with_reducible exact SrcOk.mono hS_q6 (by omega))|(with_reducible exact SrcOk.mono hS_q5 (by omega))|(with_reducible exact SrcOk.mono (SrcOk.number hS_q4 (by omega)) (by omega))|(exact⟨Int.le_refl _,by show(0:Int)<=300000;omega,hp0⟩));first|done|fail):p:=h
set_option maxHeartbeats 2000000 in
set_option maxRecDepth 20000 in
theorem den (a0:(List Int)) (hp0:∀ v∈a0,0<=v/\v<=255):Den Tryz.prog 24 [encL 1 eIu8 a0] (.tup [encL 16 eAid ((zpb a0).1),.agg (eAid ((zpb a0).2))]):=by
 generalize hR:zpb a0=r;unfold zpb at hR;refine di Tryz.func24 Tryz.ntmps24 Tryz.results24 ?_;intro c hL hc hk;obtain⟨hL0,_⟩:=hL;have hw0:a0.length<9223372036854775808:=Nat.lt_succ_of_le (yc hL0).1;clear hL0;simp only[pars,Nat.zero_add];have hS0:SrcOk 0 (zjc a0):=⟨Int.le_refl _,Int.le_refl _,hp0⟩
 have hD0:=yjl hS0 (by omega);iterate 3 refine rS ?_
 generalize hq2:(zeb (zjc a0)).2=q2 at hR ⊢;replace hR:=bn hR;have hS_q2:SrcOk (4100) q2:=by rw[<- hq2];exact SrcOk.aidsD hS0 (by omega)
 refine rS ?_;generalize hq5:(zt q2).2=q5 at hR ⊢;replace hR:=bn hR;have hS_q5:SrcOk (4500) q5:=by rw[<- hq5];exact SrcOk.aid hS_q2 (by omega)
 generalize hq6:(zsb q5 ((zt q2).1)).2=q6 at hR ⊢;replace hR:=bn hR;have hS_q6:SrcOk (4504) q6:=by rw[<- hq6];exact SrcOk.bend hS_q5 (by omega)
 refine AWP.ret ?_;subst hR;exact es
end N24
def D_zpb : DF
 | [x0]=>some (.tup [encL 16 eAid ((zpb (rdL dIu8 x0)).1),.agg (eAid ((zpb (rdL dIu8 x0)).2))],false,[wL 1 eIu8 dIu8 x0,∀ v∈(rdL dIu8 x0),0<=v/\v<=255])
 | _=>none
theorem yn3:OkD Tryz.prog 24 D_zpb:=by unfold D_zpb;exact dk N24.den
def zgb (a0:(List Int)):((List Aid)×Aid):=
 (bnd ((zeb (zjc a0)).2) fun q2=>(bnd ((zt q2).2) fun q4=>(bnd ((zwd q4 ((zeb (zjc a0)).1)).2) fun q6=>(bnd ((zsb q6 ({ Number:=((zwd q4 ((zeb (zjc a0)).1)).1),Name:=((zt q2).1).Name,At:=((zt q2).1).At,Height:=((zt q2).1).Height,Mark:=((zt q2).1).Mark,Light:=((zt q2).1).Light,Sectors:=((zt q2).1).Sectors,Intensity:=((zt q2).1).Intensity:Aid })).2) fun q8=>(((zeb (zjc a0)).1),((zsb q6 ({ Number:=((zwd q4 ((zeb (zjc a0)).1)).1),Name:=((zt q2).1).Name,At:=((zt q2).1).At,Height:=((zt q2).1).Height,Mark:=((zt q2).1).Mark,Light:=((zt q2).1).Light,Sectors:=((zt q2).1).Sectors,Intensity:=((zt q2).1).Intensity:Aid })).1))))))
namespace N31
theorem DD:DOk Tryz.prog (Go.Ab.DD [(38,dP D_zjc),(71,dM [true] D_zeb),(72,dM [true,false] D_zsb),(73,dM [true] D_zt),(89,dM [true,false] D_zwd)]):=ya you.e <| ya yst.e <| ya yao.e <| ya y4s.e <| ya yt2.e <| ye _
theorem dn:type_of% (And.intro @D_zjc.eq_1 <| And.intro @D_zeb.eq_1 <| And.intro @D_zsb.eq_1 <| And.intro @D_zt.eq_1 <| @D_zwd.eq_1):=by and_intros<;>intros<;>rfl
theorem o1 {p:Prop} (h:p:=by(first|(with_reducible exact SrcOk.mono (SrcOk.aid hS_q2 (by omega)) (by omega))|(with_reducible exact SrcOk.mono hS_q2 (by omega))|(with_reducible exact SrcOk.mono hS_q4 (by omega))|(with_reducible exact SrcOk.mono hS_q6 (by omega))|(with_reducible exact SrcOk.mono hS_q5 (by omega))|(with_reducible exact SrcOk.mono (SrcOk.number hS_q4 (by omega)) (by omega))|(exact⟨Int.le_refl _,by show(0:Int)<=300000;omega,hp0⟩));first|done|fail):p:=h
set_option maxHeartbeats 2000000 in
set_option maxRecDepth 20000 in
theorem den (a0:(List Int)) (hp0:∀ v∈a0,0<=v/\v<=255):Den Tryz.prog 31 [encL 1 eIu8 a0] (.tup [encL 16 eAid ((zgb a0).1),.agg (eAid ((zgb a0).2))]):=by
 generalize hR:zgb a0=r;unfold zgb at hR;refine di Tryz.func31 Tryz.ntmps31 Tryz.results31 ?_;intro c hL hc hk;obtain⟨hL0,_⟩:=hL;have hw0:a0.length<9223372036854775808:=Nat.lt_succ_of_le (yc hL0).1;clear hL0;simp only[pars,Nat.zero_add];have hS0:SrcOk 0 (zjc a0):=⟨Int.le_refl _,Int.le_refl _,hp0⟩
 have hD0:=yjl hS0 (by omega);iterate 3 refine rS ?_
 generalize hq2:(zeb (zjc a0)).2=q2 at hR ⊢;replace hR:=bn hR;have hS_q2:SrcOk (4100) q2:=by rw[<- hq2];exact SrcOk.aidsD hS0 (by omega)
 refine rS ?_;generalize hq4:(zt q2).2=q4 at hR ⊢;replace hR:=bn hR;have hS_q4:SrcOk (4500) q4:=by rw[<- hq4];exact SrcOk.aid hS_q2 (by omega)
 refine rS ?_;generalize hq6:(zwd q4 ((zeb (zjc a0)).1)).2=q6 at hR ⊢;replace hR:=bn hR;have hS_q6:SrcOk (4504) q6:=by rw[<- hq6];exact SrcOk.number hS_q4 (by omega)
 refine rS ?_;generalize hq8:(zsb q6 ({ Number:=((zwd q4 ((zeb (zjc a0)).1)).1),Name:=((zt q2).1).Name,At:=((zt q2).1).At,Height:=((zt q2).1).Height,Mark:=((zt q2).1).Mark,Light:=((zt q2).1).Light,Sectors:=((zt q2).1).Sectors,Intensity:=((zt q2).1).Intensity:Aid })).2=q8 at hR ⊢;replace hR:=bn hR;have hS_q8:SrcOk (4508) q8:=by rw[<- hq8];exact SrcOk.bend hS_q6 (by omega)
 refine AWP.ret ?_;subst hR;exact es
end N31
def D_zgb : DF
 | [x0]=>some (.tup [encL 16 eAid ((zgb (rdL dIu8 x0)).1),.agg (eAid ((zgb (rdL dIu8 x0)).2))],false,[wL 1 eIu8 dIu8 x0,∀ v∈(rdL dIu8 x0),0<=v/\v<=255])
 | _=>none
theorem yh0:OkD Tryz.prog 31 D_zgb:=by unfold D_zgb;exact dk N31.den
theorem yty:AidQ ({ Number:=0,Name:=[],At:={ X:=0,Y:=0:Point },Height:=0,Mark:={ Kind:=0,Colors:=[],Shape:=[],Topmark:=[]:Mark },Light:={ Kind:=0,Group:=[],Letter:=[],Colors:=[],Period:=0:Character },Sectors:=[],Intensity:=0:Aid }):=⟨by decide,by decide,by decide⟩
theorem yw8 {l:List Aid} {a:Aid} (hl:l.length<=1000) (hv:∀ v∈l,AidQ v) (ha:AidQ a):(∀ v∈(zcc l a).1,AidQ v)/\(zcc l a).1.length<=l.length+1:=by
 rcases y7l AidQ (l:=l) (a:=a) hl (fun v h=>(hv v h).l) ha.l with⟨h,_⟩|⟨_,_,_,h,_⟩
 ·rw[h];exact⟨fun v h=>absurd h (by simp),by simp⟩
 ·rw[h]
  have:=y81 AidQ hv ha;exact⟨this.1,by show(putA l a).length<=l.length+1;omega⟩
theorem yd6 {l:List Aid} {n:Int} (hl:l.length<=1000) (hv:∀ v∈l,AidQ v):(∀ v∈(zxd l n).1,AidQ v)/\(zxd l n).1.length<=l.length * 2:=by
 unfold zxd
 cases(!(zub l))with
 | true=>exact⟨by simp,by simp⟩
 | false=>
  rw[cond_false]
  cases(!((zab l n).2))with
  | true=>exact⟨by simp,by simp⟩
  | false=>
   rw[cond_false];simp only[yeb];unfold zaf;refine⟨fun v h => ?_,by rw[List.length_append,List.length_take,List.length_drop];omega⟩;rcases List.mem_append.1 h with h|h
   ·exact hv v (List.mem_of_mem_take h)
   ·exact hv v (List.mem_of_mem_drop h)
theorem yxx {l:List Aid} {b:Aid} (hv:∀ v∈l,AidQ v) (hb:AidQ b):(∀ v∈(zvb l b).1,AidQ v)/\(zvb l b).1.length<=l.length:=by
 unfold zvb
 cases((!(zub l)) || (!(zxc b)))with
 | true=>exact⟨by simp,by simp⟩
 | false=>
  rw[cond_false]
  cases(!((zab l b.Number).2))with
  | true=>exact⟨by simp,by simp⟩
  | false=>
   rw[cond_false];simp only[yeb,ysc];exact⟨yis AidQ l _ _ hv hb,by rw[List.length_set];exact Nat.le_refl _⟩
theorem yx4 {l:List Aid} {n:Int} (hv:∀ v∈l,AidQ v):AidQ (zpc l n).1:=by
 unfold zpc
 cases(!(zub l))with
 | true=>exact yty
 | false=>
  rw[cond_false]
  cases(!((zab l n).2))with
  | true=>exact yty
  | false=>
   rw[cond_false];simp only[ysc];rw[List.getD_eq_getElem?_getD]
   cases hg:l[((zab l n).1).toNat]? with
   | none=>exact yty
   | some x=>exact hv x (List.mem_of_getElem? hg)
theorem y5l (c:List Int) (h:∀ v∈c,0<=v/\v<=255):(∀ v∈(zpb c).1,AidQ v)/\(zpb c).1.length<=25/\AidQ (zpb c).2:=by
 have hS:SrcOk 0 (zjc c):=⟨Int.le_refl _,Int.le_refl _,h⟩
 obtain⟨q1,q2,q3⟩:=yjl hS (by omega);unfold zpb;simp only[bnd];generalize (zeb (zjc c)).2=s1 at q1 ⊢;have hA:=yeq q1 (by omega);have hQ:=yqx hA;obtain⟨b0,b1,b2,b3⟩:=y8r hA.1 (by omega) hQ.1;exact⟨q2,q3,b1,by rw[b2];exact hQ.2.1,by rw[b3];exact hQ.2.2⟩
theorem ybk (c:List Int) (h:∀ v∈c,0<=v/\v<=255):(∀ v∈(zgb c).1,AidQ v)/\(zgb c).1.length<=25/\AidQ (zgb c).2:=by
 have hS:SrcOk 0 (zjc c):=⟨Int.le_refl _,Int.le_refl _,h⟩
 obtain⟨q1,q2,q3⟩:=yjl hS (by omega);unfold zgb;simp only[bnd];generalize (zeb (zjc c)).2=s1 at q1 ⊢;generalize (zeb (zjc c)).1=l at q2 q3 ⊢;have hA:=yeq q1 (by omega);have hQ:=yqx hA;have hN:=SrcOk.number (l:=l) hA.1 (by omega);generalize (zwd (zt s1).2 l).2=s2 at hN ⊢;generalize (zwd (zt s1).2 l).1=n;have hb:bdAid { Number:=n,Name:=(zt s1).1.Name,At:=(zt s1).1.At,Height:=(zt s1).1.Height,Mark:=(zt s1).1.Mark,Light:=(zt s1).1.Light,Sectors:=(zt s1).1.Sectors,Intensity:=(zt s1).1.Intensity:Aid }:=hQ.1;obtain⟨b0,b1,b2,b3⟩:=y8r hN (by omega) hb;exact⟨q2,q3,b1,by rw[b2];exact hQ.2.1,by rw[b3];exact hQ.2.2⟩
def zhd (a0:(List UInt8)):(Character×Bool):=
 (bif (zd ((zd a0 [32]).2.1) [32]).2.2 then(bif (((!((zo ((zd a0 [32]).1)).2 && (zie (zqd ((zd ((zd a0 [32]).2.1) [32]).2.1) [115])).2)) || (!(zib ({ Kind:=((zo ((zd a0 [32]).1)).1).Kind,Group:=((zo ((zd a0 [32]).1)).1).Group,Letter:=((zo ((zd a0 [32]).1)).1).Letter,Colors:=(zd ((zd a0 [32]).2.1) [32]).1,Period:=(zie (zqd ((zd ((zd a0 [32]).2.1) [32]).2.1) [115])).1:Character })))) || ((zgd ({ Kind:=((zo ((zd a0 [32]).1)).1).Kind,Group:=((zo ((zd a0 [32]).1)).1).Group,Letter:=((zo ((zd a0 [32]).1)).1).Letter,Colors:=(zd ((zd a0 [32]).2.1) [32]).1,Period:=(zie (zqd ((zd ((zd a0 [32]).2.1) [32]).2.1) [115])).1:Character })) != a0))then({ Kind:=0,Group:=[],Letter:=[],Colors:=[],Period:=0:Character },false)else({ Kind:=((zo ((zd a0 [32]).1)).1).Kind,Group:=((zo ((zd a0 [32]).1)).1).Group,Letter:=((zo ((zd a0 [32]).1)).1).Letter,Colors:=(zd ((zd a0 [32]).2.1) [32]).1,Period:=(zie (zqd ((zd ((zd a0 [32]).2.1) [32]).2.1) [115])).1:Character },true))else(bif (((!((zo ((zd a0 [32]).1)).2)) || (!(zib ({ Kind:=((zo ((zd a0 [32]).1)).1).Kind,Group:=((zo ((zd a0 [32]).1)).1).Group,Letter:=((zo ((zd a0 [32]).1)).1).Letter,Colors:=(zd ((zd a0 [32]).2.1) [32]).1,Period:=((zo ((zd a0 [32]).1)).1).Period:Character })))) || ((zgd ({ Kind:=((zo ((zd a0 [32]).1)).1).Kind,Group:=((zo ((zd a0 [32]).1)).1).Group,Letter:=((zo ((zd a0 [32]).1)).1).Letter,Colors:=(zd ((zd a0 [32]).2.1) [32]).1,Period:=((zo ((zd a0 [32]).1)).1).Period:Character })) != a0))then({ Kind:=0,Group:=[],Letter:=[],Colors:=[],Period:=0:Character },false)else({ Kind:=((zo ((zd a0 [32]).1)).1).Kind,Group:=((zo ((zd a0 [32]).1)).1).Group,Letter:=((zo ((zd a0 [32]).1)).1).Letter,Colors:=(zd ((zd a0 [32]).2.1) [32]).1,Period:=((zo ((zd a0 [32]).1)).1).Period:Character },true)))
namespace N84
theorem DD:DOk Tryz.prog (Go.Ab.DD [(137,dP D_zib),(164,dP D_zd),(167,dP D_zo),(168,dP D_zie),(169,dP D_zqd),(61,dP D_zgd)]):=ya y1n.e <| ya yhk.e <| ya yd5.e <| ya yq1.e <| ya y8z.e <| ya ymv.e <| ye _
theorem dn:type_of% (And.intro @D_zib.eq_1 <| And.intro @D_zd.eq_1 <| And.intro @D_zo.eq_1 <| And.intro @D_zie.eq_1 <| And.intro @D_zqd.eq_1 <| @D_zgd.eq_1):=by and_intros<;>intros<;>rfl
theorem gr {p:Prop} (h:p:=by(grind [yze,ysx]);first|done|fail):p:=h
theorem o0 {p:Prop} (h:p:=by(first|(and_intros<;>first|omega|(intros;omega)|(intros;and_intros<;>first|omega|(show List.length _<_;simp only;omega))|(refine⟨?_,?_,?_⟩<;>(simp only;omega))));first|done|fail):p:=h
set_option maxHeartbeats 1000000 in
set_option maxRecDepth 20000 in
theorem den (a0:(List UInt8)) (hb0:a0.length<1099511627776) (hp0:a0.length<=1048576):Den Tryz.prog 84 [.str a0] (.tup [.agg (yrb ((zhd a0).1)),.bool ((zhd a0).2)]):=by
 generalize hR:zhd a0=r;unfold zhd at hR;refine di Tryz.func84 Tryz.ntmps84 Tryz.results84 ?_;intro c hL hc hk;obtain⟨hL0,_⟩:=hL;have hw0:a0.length<9223372036854775808:=Nat.lt_succ_of_le hL0;clear hL0;simp only[pars,Nat.zero_add];have c1:=yze a0 [32];have c2:=yze (zd a0 [32]).2.1 [32];have c3:=ysx (zd (zd a0 [32]).2.1 [32]).2.1 [115];have hrh:=yzs (zd a0 [32]).1 (by omega);obtain⟨hr1,hr2,hr3⟩:=hrh;iterate 6 refine rS ?_
 refine AWP.cond rfl (fun hb => ?_) (fun hb => ?_)
 ·replace hR:=ct hR
  iterate 4 refine rS ?_
  refine AWP.cond rfl (fun hb => ?_) (fun hb => ?_)
  ·replace hR:=ct hR
   refine rS ?_;refine AWP.ret ?_;subst hR;exact es
  ·replace hR:=cf hR
   refine rS ?_;refine AWP.ret ?_;subst hR;exact es
 ·replace hR:=cf hR
  refine rS ?_;refine AWP.cond rfl (fun hb => ?_) (fun hb => ?_)
  ·replace hR:=ct hR
   refine rS ?_;refine AWP.ret ?_;subst hR;exact es
  ·replace hR:=cf hR
   refine rS ?_;refine AWP.ret ?_;subst hR;exact es
end N84
def D_zhd : DF
 | [x0]=>some (.tup [.agg (yrb ((zhd (rdS x0)).1)),.bool ((zhd (rdS x0)).2)],false,[wS x0,(rdS x0).length<1099511627776,(rdS x0).length<=1048576])
 | _=>none
theorem yo1:OkD Tryz.prog 84 D_zhd:=by unfold D_zhd;exact dk N84.den
theorem y68 (a b:List UInt8):zqd a b=Lib.trimSuffix a b:=rfl
theorem yvo (s:List UInt8) (h:zob s=true):(32:UInt8)∉s:=by
 intro hm;obtain⟨i,hi,he⟩:=List.getElem_of_mem hm;unfold zob at h
 cases hl:yf (yte s) (s.length-0) 0 ()with
 | error e=>
  rw[hl]at h;obtain⟨j,t,_,_,h3⟩:=ypc hl;unfold yte at h3;simp only[Bool.cond_eq_ite]at h3;split at h3
  ·cases h3;simp at h
  ·cases h3
 | ok u=>
  have hk:=yde (fun k (_:Unit)=>∀ j,j<k->zse ((s.getD j 0).toNat:Int)≠0) hl (by intro j hj;omega) (fun j u v _ _ hI hv=>by
   unfold yte at hv;simp only[Bool.cond_eq_ite]at hv;split at hv
   ·cases hv
   ·rename_i hn
    simp only[Bool.or_eq_true,beq_iff_eq,not_or]at hn;intro q hq;by_cases hqj:q=j
    ·subst hqj;exact hn.1
    ·exact hI q (by omega))
  have:=hk i (by omega);rw[List.getD_eq_getElem?_getD,List.getElem?_eq_getElem hi,Option.getD_some,he]at this;exact this rfl
theorem yrs (c:Character) (h:zqb c=true):(32:UInt8)∉ybd c:=by
 have hk:=y8c c h;obtain⟨g1,g2⟩:=y7c c h;have h32:=(y16 c.Kind hk).2;unfold ybd;by_cases h8:c.Kind=8
 ·rw[if_pos h8]
  obtain⟨_,f2,f3,f4⟩:=y0j c h h8;obtain⟨x,hx⟩:=List.length_eq_one_iff.1 f2;rw[hx]at f3 f4 ⊢;simp only[List.getD_cons_zero]at f3 f4;intro hm;simp only[List.mem_append,List.mem_cons,List.not_mem_nil,or_false]at hm;rcases hm with hm|hm|hm|hm
  ·exact absurd hm (by decide)
  ·exact absurd hm (by decide)
  ·subst hm;exact absurd f3 (by decide)
  ·exact absurd hm (by decide)
 ·rw[if_neg h8]
  intro hm;rcases List.mem_append.1 hm with hm|hm
  ·exact h32 hm
  ·rcases List.mem_append.1 hm with hm|hm
   ·unfold grpT at hm
    split at hm
    ·simp at hm
    ·rcases List.mem_cons.1 hm with hm|hm
     ·exact absurd hm (by decide)
     ·rcases List.mem_append.1 hm with hm|hm
      ·refine y6y 32 (by decide) (c.Group.map Lib.itoa) (fun y hy => ?_) hm
       obtain⟨z,hz,rfl⟩:=List.mem_map.1 hy;exact y3c (by have:=g2 z hz;omega) 32 (by decide)
      ·rw[List.mem_singleton]at hm;exact absurd hm (by decide)
   ·split at hm
    ·simp at hm
    ·exact absurd hm (by decide)
theorem yef (c:Character) (h:zib c=true) (hl:c.Colors.length<9223372036854775808):zob c.Colors=true:=by
 unfold zib at h;rw[ytp _ hl]at h
 cases hc:zob c.Colors with
 | true=>rfl
 | false=>rw[hc]at h;simp at h
theorem ynp (c:Character) (h:zib c=true) (hl:c.Colors.length<9223372036854775808):zhd (chrT c)=(c,true):=by
 have hf:=yzb c h;have hr:=yhy c hf;have hp:=y2c c h;have hp2:=(ymc c h).2.2;have hcol:=yvo _ (yef c h hl)
 have c1:zd (chrT c) [32]=(ybd c,c.Colors++perT c.Period,true):=by
  rw[yhs];unfold chrT;rw[y0e _ _ 32 (yrs c hf)]
 have htext:=ypk c h;unfold zhd;rw[c1];simp only;by_cases h0:c.Period=0
 ·have c2:zd (c.Colors++perT c.Period) [32]=(c.Colors,[],false):=by
   rw[h0,show perT 0=[]from rfl,List.append_nil,yhs,ylj _ 32 hcol]
  rw[c2,hr];simp only[cond_false];have ec:({ Kind:=c.Kind,Group:=c.Group,Letter:=c.Letter,Colors:=c.Colors,Period:=0:Character })=c:=by rw[<- h0]
  simp only[ec,h,htext];simp
 ·have e2:perT c.Period=32::(secT c.Period++[115]):=by unfold perT;rw[if_neg h0]
  have c2:zd (c.Colors++perT c.Period) [32]=(c.Colors,secT c.Period++[115],true):=by
   rw[e2,yhs,y0e _ _ 32 hcol]
  have c3:zqd (secT c.Period++[115]) [115]=secT c.Period:=by rw[y68,yfc]
  rw[c2,hr];simp only[cond_true];rw[c3,yco _ (by omega) hp2];have ec:({ Kind:=c.Kind,Group:=c.Group,Letter:=c.Letter,Colors:=c.Colors,Period:=c.Period:Character })=c:=rfl;simp only[ec,h,htext];simp
theorem y9g (a:List UInt8):zhd a=({ Kind:=0,Group:=[],Letter:=[],Colors:=[],Period:=0:Character },false)\/∃ c,zib c=true/\zgd c=a/\zhd a=(c,true):=by
 unfold zhd
 cases(zd ((zd a [32]).2.1) [32]).2.2 with
 | true=>
  simp only[cond_true];generalize hc:({ Kind:=((zo ((zd a [32]).1)).1).Kind,Group:=((zo ((zd a [32]).1)).1).Group,Letter:=((zo ((zd a [32]).1)).1).Letter,Colors:=(zd ((zd a [32]).2.1) [32]).1,Period:=(zie (zqd ((zd ((zd a [32]).2.1) [32]).2.1) [115])).1:Character })=c
  cases hv:zib c with
  | false=>left;simp
  | true=>
   by_cases ht:zgd c=a
   ·cases hq:((zo ((zd a [32]).1)).2 && (zie (zqd ((zd ((zd a [32]).2.1) [32]).2.1) [115])).2)with
    | true=>right;exact⟨c,hv,ht,by simp[ht]⟩
    | false=>left;simp
   ·left
    have:(zgd c != a)=true:=by simpa using ht
    rw[this];simp
 | false=>
  simp only[cond_false];generalize hc:({ Kind:=((zo ((zd a [32]).1)).1).Kind,Group:=((zo ((zd a [32]).1)).1).Group,Letter:=((zo ((zd a [32]).1)).1).Letter,Colors:=(zd ((zd a [32]).2.1) [32]).1,Period:=((zo ((zd a [32]).1)).1).Period:Character })=c
  cases hv:zib c with
  | false=>left;simp
  | true=>
   by_cases ht:zgd c=a
   ·cases hq:(zo ((zd a [32]).1)).2 with
    | true=>right;exact⟨c,hv,ht,by simp[ht]⟩
    | false=>left;simp
   ·left
    have:(zgd c != a)=true:=by simpa using ht
    rw[this];simp
def zbd (a0:(List UInt8)):(Mark×Bool):=
 (bif (a0 == (zjd 0))then({ Kind:=0,Colors:=[],Shape:=[],Topmark:=[]:Mark },true)else(bif (((zcb a0).length:Int) != 4)then({ Kind:=0,Colors:=[],Shape:=[],Topmark:=[]:Mark },false)else(bif (((zcb a0).getD 3 default) == [45])then(bif (((!((zed ((zcb a0).getD 0 default)).2)) || (!(zcd ({ Kind:=(zed ((zcb a0).getD 0 default)).1,Colors:=((zcb a0).getD 1 default),Shape:=((zcb a0).getD 2 default),Topmark:=[]:Mark })))) || ((zyd ({ Kind:=(zed ((zcb a0).getD 0 default)).1,Colors:=((zcb a0).getD 1 default),Shape:=((zcb a0).getD 2 default),Topmark:=[]:Mark })) != a0))then({ Kind:=0,Colors:=[],Shape:=[],Topmark:=[]:Mark },false)else({ Kind:=(zed ((zcb a0).getD 0 default)).1,Colors:=((zcb a0).getD 1 default),Shape:=((zcb a0).getD 2 default),Topmark:=[]:Mark },true))else(bif (((!((zed ((zcb a0).getD 0 default)).2)) || (!(zcd ({ Kind:=(zed ((zcb a0).getD 0 default)).1,Colors:=((zcb a0).getD 1 default),Shape:=((zcb a0).getD 2 default),Topmark:=((zcb a0).getD 3 default):Mark })))) || ((zyd ({ Kind:=(zed ((zcb a0).getD 0 default)).1,Colors:=((zcb a0).getD 1 default),Shape:=((zcb a0).getD 2 default),Topmark:=((zcb a0).getD 3 default):Mark })) != a0))then({ Kind:=0,Colors:=[],Shape:=[],Topmark:=[]:Mark },false)else({ Kind:=(zed ((zcb a0).getD 0 default)).1,Colors:=((zcb a0).getD 1 default),Shape:=((zcb a0).getD 2 default),Topmark:=((zcb a0).getD 3 default):Mark },true)))))
namespace N83
theorem DD:DOk Tryz.prog (Go.Ab.DD [(135,dP D_zcd),(147,dP D_zjd),(165,dP D_zcb),(166,dP D_zed),(65,dP D_zyd)]):=ya ylo.e <| ya yfn.e <| ya yv1.e <| ya y90.e <| ya ytu.e <| ye _
theorem dn:type_of% (And.intro @D_zcd.eq_1 <| And.intro @D_zjd.eq_1 <| And.intro @D_zcb.eq_1 <| And.intro @D_zed.eq_1 <| @D_zyd.eq_1):=by and_intros<;>intros<;>rfl
set_option maxHeartbeats 1000000 in
set_option maxRecDepth 20000 in
theorem den (a0:(List UInt8)) (hb0:a0.length<1099511627776) (hp0:a0.length<=1048576):Den Tryz.prog 83 [.str a0] (.tup [.agg (yzf ((zbd a0).1)),.bool ((zbd a0).2)]):=by
 generalize hR:zbd a0=r;unfold zbd at hR;refine di Tryz.func83 Tryz.ntmps83 Tryz.results83 ?_;intro c hL hc hk;obtain⟨hL0,_⟩:=hL;have hw0:a0.length<9223372036854775808:=Nat.lt_succ_of_le hL0;clear hL0;simp only[pars,Nat.zero_add];have hs9:=y45 a0 (by omega);have hs0:=ypf hs9 0;have hs1:=ypf hs9 1;have hs2:=ypf hs9 2;have hs3:=ypf hs9 3;iterate 2 refine rS ?_
 refine AWP.cond rfl (fun hb => ?_) (fun hb => ?_)
 ·replace hR:=ct hR
  refine rS ?_;refine AWP.ret ?_;subst hR;exact es
 ·replace hR:=cf hR
  iterate 2 refine rS ?_
  refine AWP.cond rfl (fun hb => ?_) (fun hb => ?_)
  ·replace hR:=ct hR
   refine rS ?_;refine AWP.ret ?_;subst hR;exact es
  ·replace hR:=cf hR
   iterate 3 refine rS ?_
   refine AWP.cond rfl (fun hb => ?_) (fun hb => ?_)
   ·replace hR:=ct hR
    refine rS ?_;refine AWP.seq ?_;refine AWP.regP mixed G_ok DD hc 10 [0,1,2,3,4,5,6,7,8] (.alt 9 [] [0,1,2,3,4,5,6,7,8] .leaf .stop) (by kernel_rfl) (by kernel_rfl) (by kernel_rfl) (fun K hK => ?_);simp only[ydj,runN,runP,yjc,nthO,ea,absV,absVL,cput,gv,sv,dn,reduceCtorEq,reduceIte,Nat.reduceBEq,Nat.reduceAdd,Nat.reduceEqDiff,Nat.reduceLT,Nat.reduceLeDiff,Nat.reduceMul,Nat.reduceSub,BEq.rfl,beq_self_eq_true,Int.reduceToNat];repeat' apply And.intro
    all_goals first|refine hK _ ?_|exact ot
    all_goals clear hK K
    refine rS ?_;refine AWP.cond rfl (fun hb => ?_) (fun hb => ?_)
    ·replace hR:=ct hR
     refine rS ?_;refine AWP.ret ?_;subst hR;exact es
    ·replace hR:=cf hR
     refine rS ?_;refine AWP.ret ?_;subst hR;exact es
   ·replace hR:=cf hR
    refine AWP.skip ?_;refine AWP.seq ?_;refine AWP.regP mixed G_ok DD hc 10 [0,1,2,3,4,5,6,7,8] (.alt 9 [] [0,1,2,3,4,5,6,7,8] .leaf .stop) (by kernel_rfl) (by kernel_rfl) (by kernel_rfl) (fun K hK => ?_);simp only[ydj,runN,runP,yjc,nthO,ea,absV,absVL,cput,gv,sv,dn,reduceCtorEq,reduceIte,Nat.reduceBEq,Nat.reduceAdd,Nat.reduceEqDiff,Nat.reduceLT,Nat.reduceLeDiff,Nat.reduceMul,Nat.reduceSub,BEq.rfl,beq_self_eq_true,Int.reduceToNat];repeat' apply And.intro
    all_goals first|refine hK _ ?_|exact ot
    all_goals clear hK K
    refine rS ?_;refine AWP.cond rfl (fun hb => ?_) (fun hb => ?_)
    ·replace hR:=ct hR
     refine rS ?_;refine AWP.ret ?_;subst hR;exact es
    ·replace hR:=cf hR
     refine rS ?_;refine AWP.ret ?_;subst hR;exact es
end N83
def D_zbd : DF
 | [x0]=>some (.tup [.agg (yzf ((zbd (rdS x0)).1)),.bool ((zbd (rdS x0)).2)],false,[wS x0,(rdS x0).length<1099511627776,(rdS x0).length<=1048576])
 | _=>none
theorem yi3:OkD Tryz.prog 83 D_zbd:=by unfold D_zbd;exact dk N83.den
def zvg (a0:(List UInt8)):(Mark×Bool):=
 (bif (a0 == [110,111,110,101])then({ Kind:=0,Colors:=[],Shape:=[],Topmark:=[]:Mark },true)else(bif (((ze a0 32).length:Int) != 4)then({ Kind:=0,Colors:=[],Shape:=[],Topmark:=[]:Mark },false)else(bif (((ze a0 32).getD 3 default) == [45])then(bif (((!(zac (zpg ((ze a0 32).getD 0 default)))) || (!(zrb ({ Kind:=(zpg ((ze a0 32).getD 0 default)),Colors:=((ze a0 32).getD 1 default),Shape:=((ze a0 32).getD 2 default),Topmark:=[]:Mark })))) || ((zoe ({ Kind:=(zpg ((ze a0 32).getD 0 default)),Colors:=((ze a0 32).getD 1 default),Shape:=((ze a0 32).getD 2 default),Topmark:=[]:Mark })) != a0))then({ Kind:=0,Colors:=[],Shape:=[],Topmark:=[]:Mark },false)else({ Kind:=(zpg ((ze a0 32).getD 0 default)),Colors:=((ze a0 32).getD 1 default),Shape:=((ze a0 32).getD 2 default),Topmark:=[]:Mark },true))else(bif (((!(zac (zpg ((ze a0 32).getD 0 default)))) || (!(zrb ({ Kind:=(zpg ((ze a0 32).getD 0 default)),Colors:=((ze a0 32).getD 1 default),Shape:=((ze a0 32).getD 2 default),Topmark:=((ze a0 32).getD 3 default):Mark })))) || ((zoe ({ Kind:=(zpg ((ze a0 32).getD 0 default)),Colors:=((ze a0 32).getD 1 default),Shape:=((ze a0 32).getD 2 default),Topmark:=((ze a0 32).getD 3 default):Mark })) != a0))then({ Kind:=0,Colors:=[],Shape:=[],Topmark:=[]:Mark },false)else({ Kind:=(zpg ((ze a0 32).getD 0 default)),Colors:=((ze a0 32).getD 1 default),Shape:=((ze a0 32).getD 2 default),Topmark:=((ze a0 32).getD 3 default):Mark },true)))))
def zif (a0:(List UInt8)):(Mark×Bool):=
 ((zvg a0).1,(zvg a0).2)
abbrev ycz:Mark:={ Kind:=0,Colors:=[],Shape:=[],Topmark:=[]}
def allMarks:List Mark:=ycz::([1,2,3,4,5,6,7,8,9]:List Int).flatMap fun k=>(zhb k).flatMap fun s=>[{ Kind:=k,Colors:=zkd k,Shape:=s,Topmark:=[]},{ Kind:=k,Colors:=zkd k,Shape:=s,Topmark:=znd k }]
theorem yzt {m:Mark} (h:zrb m=true):m∈allMarks:=by
 unfold allMarks;rcases yrm (m:=m) h with⟨h1,h2,h3,h4⟩|⟨h1,h2,h3,h4⟩
 ·cases m
  simp only at h1 h2 h3 h4;subst h1 h2 h3 h4;exact List.mem_cons_self
 ·refine List.mem_cons_of_mem _ (List.mem_flatMap.2 ⟨m.Kind,?_,List.mem_flatMap.2 ⟨m.Shape,h4,?_⟩⟩)
  ·rcases ykg h1 with e|e|e|e|e|e|e|e|e<;>rw[e]<;>decide
  ·cases m
   simp only at h2 h3 ⊢;subst h2;rcases h3 with e|e
   ·rw[e];exact List.mem_cons_self
   ·rw[e];exact List.mem_cons_of_mem _ List.mem_cons_self
theorem y7v:(allMarks.all fun m=>decide (zbd (zoe m)=(m,true)) && decide (zvg (zoe m)=(m,true)))=true:=by decide +kernel
theorem yxr {m:Mark} (h:zrb m=true):zbd (zoe m)=(m,true)/\zvg (zoe m)=(m,true):=by
 have:=List.all_eq_true.1 y7v m (yzt h);rw[Bool.and_eq_true]at this;exact⟨of_decide_eq_true this.1,of_decide_eq_true this.2⟩
theorem yb5:RdOk (fun m=>zrb m=true) zoe ycz zbd 1048576:=.of (fun p h _=>(yxr h).1) (fun a ha=>by
 have key:∀ m:Mark,∀ b:Bool,((b || (!(zcd m))) || ((zyd m) != a))=false->zrb m=true/\a=zoe m:=fun m b hc=>by
  simp only[Bool.or_eq_false_iff,Bool.not_eq_false',bne_eq_false_iff_eq]at hc;have h1:zrb m=true:=by rw[<- show zuc m=zrb m from rfl, <- ysd];exact hc.1.2
  refine⟨h1,?_⟩;rw[<- hc.2,yl8];unfold zjg;rw[h1];rfl
 unfold zbd
 cases h0:(a == zjd 0)with
 | true=>exact .inr ⟨ycz,rfl,by decide,eq_of_beq h0⟩
 | false=>
  rw[cond_false]
  cases h1:(((zcb a).length:Int) != 4)with
  | true=>exact .inl rfl
  | false=>
   rw[cond_false]
   cases h2:(((zcb a).getD 3 default) == [45])with
   | true=>rw[cond_true];exact yfi a _ _ (key _ _)
   | false=>rw[cond_false];exact yfi a _ _ (key _ _))
theorem yt8:RdOk (fun m=>zrb m=true) zoe ycz zvg 1048576:=.of (fun p h _=>(yxr h).2) (fun a ha=>by
 have key:∀ m:Mark,∀ b:Bool,((b || (!(zrb m))) || ((zoe m) != a))=false->zrb m=true/\a=zoe m:=fun m b hc=>by
  simp only[Bool.or_eq_false_iff,Bool.not_eq_false',bne_eq_false_iff_eq]at hc;exact⟨hc.1.2,hc.2.symm⟩
 unfold zvg
 cases h0:(a == [110,111,110,101])with
 | true=>exact .inr ⟨ycz,rfl,by decide,eq_of_beq h0⟩
 | false=>
  rw[cond_false]
  cases h1:(((ze a 32).length:Int) != 4)with
  | true=>exact .inl rfl
  | false=>
   rw[cond_false]
   cases h2:(((ze a 32).getD 3 default) == [45])with
   | true=>rw[cond_true];exact yfi a _ _ (key _ _)
   | false=>rw[cond_false];exact yfi a _ _ (key _ _))
theorem y3p (a:List UInt8) (ha:a.length<=1048576):zbd a=zif a:=(yb5.eq yt8 a ha)
theorem yrr (c:UInt8):∀ a:List UInt8,(c∉a/\Lib.cut a [c]=(a,[],false)/\ym c a=[a])\/∃ l t,a=l++c::t/\c∉l/\Lib.cut a [c]=(l,t,true)/\ym c a=l::ym c t:=by
 intro a;by_cases h:c∈a
 ·right
  obtain⟨l,t,e,hl⟩:∃ l t,a=l++c::t/\c∉l:=by
   induction a with
   | nil=>simp at h
   | cons b a ih=>
    by_cases hb:c=b
    ·exact⟨[],a,by rw[hb];rfl,by simp⟩
    ·have h2:c∈a:=by
      rcases List.mem_cons.1 h with h|h
      ·exact absurd h hb
      ·exact h
     obtain⟨l,t,e,hl⟩:=ih h2;exact⟨b::l,t,by rw[e];rfl,by simp[hb,hl]⟩
  exact⟨l,t,e,hl,by rw[e];exact y0e l t c hl,by rw[e];exact y7 c l t hl⟩
 ·exact .inl ⟨h,ylj a c h,ykb c a h⟩
theorem yzw (c:UInt8) (a:List UInt8) (h:(ym c a).length=1):c∉a:=by
 rcases yrr c a with⟨h1,_,_⟩|⟨l,t,_,_,_,h4⟩
 ·exact h1
 ·rw[h4,List.length_cons]at h
  have:=List.length_pos_iff.2 (y1e c t);omega
theorem yfw (n:Int):∀ b∈Lib.itoa n,b=45\/(48<=b.toNat/\b.toNat<=57):=by
 intro b hb;by_cases h:n<0
 ·rw[ywb h]at hb
  rcases List.mem_cons.1 hb with hb|hb
  ·exact .inl hb
  ·exact .inr ((y8 n.natAbs).1 b hb)
 ·rw[yxd h]at hb
  exact .inr ((y8 n.natAbs).1 b hb)
theorem ypg (n:Int) (c:UInt8) (h1:c≠45) (h2:c.toNat<48\/57<c.toNat):c∉Lib.itoa n:=fun h=>by
 rcases yfw n c h with h|h
 ·exact h1 h
 ·omega
theorem ynn (n:Int):Lib.itoa n≠[]:=(y5j n).2
theorem yhe {w:List UInt8} (hw:w.length<=1048576):(zq w).2=true->w=Lib.itoa (zq w).1/\(zq w).1.natAbs<E18:=by
 intro h;rcases ygc w hw with⟨n,h1,h2,h3⟩|⟨_,h3⟩
 ·rw[h3];exact⟨h2,h1⟩
 ·rw[h3]at h;cases h
theorem yr7 {w:List UInt8} (hw:w.length<=1048576) (c:UInt8) (h1:c≠45) (h2:c.toNat<48\/57<c.toNat) (hc:c∈w):zq w=(0,false):=by
 rcases ygc w hw with⟨n,_,h4,_⟩|⟨_,h3⟩
 ·rw[h4]at hc;exact absurd hc (ypg n c h1 h2)
 ·exact h3
theorem yn5:zq []=(0,false):=by
 rcases ygc [] (by simp)with⟨n,_,h4,_⟩|⟨_,h3⟩
 ·exact absurd h4.symm (ynn n)
 ·exact h3
theorem yli (w:List UInt8) (hw:w.length<=1048576):zp w=zq w:=y9o w hw
theorem yxh (a:List UInt8) (c:UInt8) (n:Int) (hc:(c.toNat:Int)=n) (ha:a.length<=1048576):ze a n=ym c a:=by
 rw[<- hc];exact yft a c (by omega)
theorem ynx (a:List UInt8) (c:UInt8):zg a [c]=ym c a:=rfl
theorem cutI (a:List UInt8) (c:UInt8):zd a [c]=Lib.cut a [c]:=rfl
theorem y7x (a:List UInt8) (ha:a.length<=1048576):zde a=zme a:=by
 unfold zde zme;rw[cutI,yxh a 44 44 rfl ha];rcases yrr 44 a with⟨h1,h2,h3⟩|⟨l,t,e,h1,h2,h3⟩
 ·rw[h2,h3]
  simp only;rw[yli [] (by simp),yn5];simp
 ·have hlen:a.length=l.length+1+t.length:=by rw[e];simp;omega
  rw[h2,h3];simp only;rw[yli l (by omega),yli t (by omega)];by_cases ht:(44:UInt8)∈t
  ·rw[yr7 (by omega) 44 (by decide) (by decide) ht]
   have hq:2<=(ym 44 t).length:=by
    have:=List.length_pos_iff.2 (y1e 44 t);by_cases h:(ym 44 t).length=1
    ·exact absurd ht (yzw 44 t h)
    ·omega
   have:(((l::ym 44 t).length:Int) != 2)=true:=by rw[bne_iff_ne,List.length_cons];omega
   rw[this];simp
  ·rw[ykb 44 t ht]
   rfl
theorem ybs (a:List UInt8) (ha:a.length<=1048576) (h:(zme a).2=true):zdc (zme a).1=true/\a=zye (zme a).1:=by
 unfold zme at h ⊢;rw[yxh a 44 44 rfl ha]at h ⊢
 cases hl:(((ym 44 a).length:Int) != 2)with
 | true=>rw[hl]at h;cases h
 | false=>
  rw[hl,cond_false]at h;rw[cond_false];have hl:(ym 44 a).length=2:=by have h:=hl;simp at h;omega
  obtain⟨x,y,e⟩:∃ x y,ym 44 a=[x,y]:=by
   match ym 44 a,hl with
   | [x,y],_=>exact⟨x,y,rfl⟩
  have hj:=y3d 44 a;have hsl:=(ycb 44 a).2;rw[e]at hj h hsl ⊢;have hx:x.length<=1048576:=by have:=hsl x (by simp);omega
  have hy:y.length<=1048576:=by have:=hsl y (by simp);omega
  simp only[List.getD_cons_zero,List.getD_cons_succ]at h ⊢
  cases hc:(((!((zq x).2)) || (!((zq y).2))) || (!(zdc ({ X:=(zq x).1,Y:=(zq y).1:Point }))))with
  | true=>rw[hc]at h;cases h
  | false=>
   rw[cond_false];simp only[Bool.or_eq_false_iff,Bool.not_eq_false']at hc;have hr:=ymy hc.2;refine⟨hc.2,?_⟩;unfold zye;simp only at hr ⊢;rw[yxg _ (by omega) (by omega),yxg _ (by omega) (by omega), <- (yhe hx hc.1.1).1, <- (yhe hy hc.1.2).1, <- hj];simp[y4h]
end Go.Ab
