/- A part of a proof: walks of functions and lemmas of our own. No conditions. -/
import Derived.Test.YtijmcongeemehaaGreatDoorFAl
import Derived.Test.YtijmcongeemehaaGreatDoorFAw
import Derived.Test.YtijmcongeemehaaGreatDoorFBf
import Derived.Test.YtijmcongeemehaaGreatDoorFBg
import Derived.Test.YtijmcongeemehaaGreatDoorFAy
import Derived.Test.YtijmcongeemehaaGreatDoorFAv
import Derived.Test.YtijmcongeemehaaGreatDoorFAt
import Derived.Test.YtijmcongeemehaaGreatDoorFBh
import Derived.Test.YtijmcongeemehaaGreatDoorFBe
import Derived.Test.YtijmcongeemehaaGreatDoorFBd
import Derived.Test.YtijmcongeemehaaGreatDoorFAu
import Derived.Test.YtijmcongeemehaaGreatDoorFAx
import Derived.Test.YtijmcongeemehaaGreatDoorFBc
import Derived.Test.YtijmcongeemehaaGreatDoorFAr
import Derived.Test.YtijmcongeemehaaGreatDoorFAs
import Derived.Test.YtijmcongeemehaaGreatDoorFAq
import Derived.Test.YtijmcongeemehaaGreatDoorFAo
set_option linter.unusedSectionVars false
set_option linter.unusedVariables false
set_option linter.unusedSimpArgs false
set_option maxHeartbeats 1000000
namespace Go.Ab
open Go Go.Proofs
def zwg (a0:(List UInt8)):(Aid×Bool):=
 (bif (((ze a0 47).length:Int) != 8)then({ Number:=0,Name:=[],At:={ X:=0,Y:=0:Point },Height:=0,Mark:={ Kind:=0,Colors:=[],Shape:=[],Topmark:=[]:Mark },Light:={ Kind:=0,Group:=[],Letter:=[],Colors:=[],Period:=0:Character },Sectors:=[],Intensity:=0:Aid },false)else(bif ((((((!((zq ((ze a0 47).getD 0 default)).2)) || (!((zme ((ze a0 47).getD 2 default)).2))) || (!((zq ((ze a0 47).getD 3 default)).2))) || (!((zif ((ze a0 47).getD 4 default)).2))) || (!((zwc ((ze a0 47).getD 6 default)).2))) || (!((zq ((ze a0 47).getD 7 default)).2)))then({ Number:=0,Name:=[],At:={ X:=0,Y:=0:Point },Height:=0,Mark:={ Kind:=0,Colors:=[],Shape:=[],Topmark:=[]:Mark },Light:={ Kind:=0,Group:=[],Letter:=[],Colors:=[],Period:=0:Character },Sectors:=[],Intensity:=0:Aid },false)else(bif (((ze a0 47).getD 5 default) != [45])then(bif (!((zog ((ze a0 47).getD 5 default)).2))then({ Number:=0,Name:=[],At:={ X:=0,Y:=0:Point },Height:=0,Mark:={ Kind:=0,Colors:=[],Shape:=[],Topmark:=[]:Mark },Light:={ Kind:=0,Group:=[],Letter:=[],Colors:=[],Period:=0:Character },Sectors:=[],Intensity:=0:Aid },false)else(bif (!(zmb ({ Number:=(zq ((ze a0 47).getD 0 default)).1,Name:=((ze a0 47).getD 1 default),At:=(zme ((ze a0 47).getD 2 default)).1,Height:=(zq ((ze a0 47).getD 3 default)).1,Mark:=(zif ((ze a0 47).getD 4 default)).1,Light:=(zog ((ze a0 47).getD 5 default)).1,Sectors:=(zwc ((ze a0 47).getD 6 default)).1,Intensity:=(zq ((ze a0 47).getD 7 default)).1:Aid })))then({ Number:=0,Name:=[],At:={ X:=0,Y:=0:Point },Height:=0,Mark:={ Kind:=0,Colors:=[],Shape:=[],Topmark:=[]:Mark },Light:={ Kind:=0,Group:=[],Letter:=[],Colors:=[],Period:=0:Character },Sectors:=[],Intensity:=0:Aid },false)else({ Number:=(zq ((ze a0 47).getD 0 default)).1,Name:=((ze a0 47).getD 1 default),At:=(zme ((ze a0 47).getD 2 default)).1,Height:=(zq ((ze a0 47).getD 3 default)).1,Mark:=(zif ((ze a0 47).getD 4 default)).1,Light:=(zog ((ze a0 47).getD 5 default)).1,Sectors:=(zwc ((ze a0 47).getD 6 default)).1,Intensity:=(zq ((ze a0 47).getD 7 default)).1:Aid },true)))else(bif (!(zmb ({ Number:=(zq ((ze a0 47).getD 0 default)).1,Name:=((ze a0 47).getD 1 default),At:=(zme ((ze a0 47).getD 2 default)).1,Height:=(zq ((ze a0 47).getD 3 default)).1,Mark:=(zif ((ze a0 47).getD 4 default)).1,Light:={ Kind:=0,Group:=[],Letter:=[],Colors:=[],Period:=0:Character },Sectors:=(zwc ((ze a0 47).getD 6 default)).1,Intensity:=(zq ((ze a0 47).getD 7 default)).1:Aid })))then({ Number:=0,Name:=[],At:={ X:=0,Y:=0:Point },Height:=0,Mark:={ Kind:=0,Colors:=[],Shape:=[],Topmark:=[]:Mark },Light:={ Kind:=0,Group:=[],Letter:=[],Colors:=[],Period:=0:Character },Sectors:=[],Intensity:=0:Aid },false)else({ Number:=(zq ((ze a0 47).getD 0 default)).1,Name:=((ze a0 47).getD 1 default),At:=(zme ((ze a0 47).getD 2 default)).1,Height:=(zq ((ze a0 47).getD 3 default)).1,Mark:=(zif ((ze a0 47).getD 4 default)).1,Light:={ Kind:=0,Group:=[],Letter:=[],Colors:=[],Period:=0:Character },Sectors:=(zwc ((ze a0 47).getD 6 default)).1,Intensity:=(zq ((ze a0 47).getD 7 default)).1:Aid },true)))))
abbrev zAid:Aid:={ Number:=0,Name:=[],At:={ X:=0,Y:=0:Point },Height:=0,Mark:={ Kind:=0,Colors:=[],Shape:=[],Topmark:=[]:Mark },Light:={ Kind:=0,Group:=[],Letter:=[],Colors:=[],Period:=0:Character },Sectors:=[],Intensity:=0 }
abbrev zChr:Character:={ Kind:=0,Group:=[],Letter:=[],Colors:=[],Period:=0 }
theorem yc1:zhd [45]=(zChr,false):=by decide +kernel
theorem y08 {α:Type} (l:List α) (h:l.length=8):∃ a b c d e f g k,l=[a,b,c,d,e,f,g,k]:=by
 match l,h with
 | [a,b,c,d,e,f,g,k],_=>exact⟨a,b,c,d,e,f,g,k,rfl⟩
theorem y31 {s w0 w1 w2 w3 w4 w5 w6 w7 : List UInt8} (hs : s.length <= 1048576) (hw : ym 47 s = [w0, w1, w2, w3, w4, w5, w6, w7]) (c : Character) (f0 : (zq w0).2 = true) (f2 : (zme w2).2 = true) (f3 : (zq w3).2 = true)
  (f4:(zif w4).2=true) (f6:(zwc w6).2=true) (f7:(zq w7).2=true) (hc:(w5=[45]/\c=zChr)\/(ztb c=true/\zfd c=w5/\c.Colors.length<9223372036854775808)) :
  (zsc ({ Number:=(zq w0).1,Name:=w1,At:=(zme w2).1,Height:=(zq w3).1,Mark:=(zif w4).1,Light:=c,Sectors:=(zwc w6).1,Intensity:=(zq w7).1:Aid }) != s) = !(zmb ({ Number:=(zq w0).1,Name:=w1,At:=(zme w2).1,Height:=(zq w3).1,Mark:=(zif w4).1,Light:=c,Sectors:=(zwc w6).1,Intensity:=(zq w7).1:Aid })):=by
 have hj:=y3d 47 s;have hl:=(ycb 47 s).2;rw[hw]at hj hl;have hx:∀ x∈[w0,w1,w2,w3,w4,w5,w6,w7],x.length<=1048576:=fun x h=>by have:=hl x h;omega
 have q2:=ybs w2 (hx w2 (by simp)) f2;have q4:=yt8.r2 w4 (hx w4 (by simp)) f4;have q6:=yd7.r2 w6 (hx w6 (by simp)) f6
 have hcol:c.Colors.length<9223372036854775808:=by
  rcases hc with⟨_,e⟩|⟨_,_,e⟩
  ·rw[e];decide
  ·exact e
 generalize ha:({ Number:=(zq w0).1,Name:=w1,At:=(zme w2).1,Height:=(zq w3).1,Mark:=(zif w4).1,Light:=c,Sectors:=(zwc w6).1,Intensity:=(zq w7).1:Aid })=a;have e1:a.Number=(zq w0).1:=by rw[<- ha]
 have e2:a.Name=w1:=by rw[<- ha]
 have e3:a.At=(zme w2).1:=by rw[<- ha]
 have e4:a.Height=(zq w3).1:=by rw[<- ha]
 have e5:a.Mark=(zif w4).1:=by rw[<- ha]
 have e6:a.Light=c:=by rw[<- ha]
 have e7:a.Sectors=(zwc w6).1:=by rw[<- ha]
 have e8:a.Intensity=(zq w7).1:=by rw[<- ha]
 have hsl:a.Sectors.length<9223372036854775807:=by rw[e7];have:=(yvd q6.1).1;omega
 have hcl:a.Light.Colors.length<9223372036854775808:=by rw[e6];exact hcol
 cases h:zmb a with
 | false=>
  have:zsc a=[]:=by unfold zsc;rw[y8b a hcl hsl,h];rfl
  rw[this,Bool.not_false,bne_iff_ne];intro e;rw[<- e]at hw;cases hw
 | true=>
  rw[(ykh h hcl).1,Bool.not_true,bne_eq_false_iff_eq];obtain⟨n1,n2,_,_,h1,h2,_,_,_,i1,i2⟩:=y6e h;have t1:zv a.Number=w0:=by rw[yxg _ (by omega) (by omega),e1];exact(yhe (hx w0 (by simp)) f0).1.symm
  have t4:zv a.Height=w3:=by rw[yxg _ (by omega) (by omega),e4];exact(yhe (hx w3 (by simp)) f3).1.symm
  have t8:zv a.Intensity=w7:=by rw[yxg _ (by omega) (by omega),e8];exact(yhe (hx w7 (by simp)) f7).1.symm
  have t3:zye a.At=w2:=by rw[e3];exact q2.2.symm
  have t5:zjg a.Mark=w4:=by
   rw[e5];have hm:zrb (zif w4).1=true:=q4.1;unfold zjg;rw[hm];exact q4.2.symm
  have t7:zqf a.Sectors=w6:=by rw[e7];exact q6.2.symm
  have t6:(zpf a=true/\zfd a.Light=w5)\/(zpf a=false/\[45]=w5):=by
   unfold zpf;rw[e6];rcases hc with⟨g1,g2⟩|⟨g1,g2,g3⟩
   ·right;rw[g2];exact⟨rfl,g1.symm⟩
   ·left
    have:=(yo4 c g3 g1).2.2.1;exact⟨by rw[bne_iff_ne];omega,g2⟩
  rw[<- hj];unfold zsg;rcases t6 with⟨g1,g2⟩|⟨g1,g2⟩
  ·rw[g1,cond_true,t1,e2,t3,t4,t5,g2,t7,t8]
   simp[y4h]
  ·rw[g1,cond_false,t1,e2,t3,t4,t5,g2,t7,t8]
   simp[y4h]
theorem y5m (s:List UInt8) (hs:s.length<=1048576):zje s=zwg s:=by
 unfold zje zwg;rw[ynx,yxh s 47 47 rfl hs]
 cases hl:(((ym 47 s).length:Int) != 8)with
 | true=>rfl
 | false=>
  have hl:(ym 47 s).length=8:=by have h:=hl;simp at h;omega
  obtain⟨w0,w1,w2,w3,w4,w5,w6,w7,hw⟩:=y08 _ hl;have hx:=(ycb 47 s).2;rw[hw]at hx ⊢;have hx:∀ x∈[w0,w1,w2,w3,w4,w5,w6,w7],x.length<=1048576:=fun x h=>by have:=hx x h;omega
  simp only[cond_false,List.getD_cons_zero,List.getD_cons_succ];rw[yli w0 (hx w0 (by simp)),yli w3 (hx w3 (by simp)),yli w7 (hx w7 (by simp)),y7x w2 (hx w2 (by simp)),y3p w4 (hx w4 (by simp)),yqp w6 (hx w6 (by simp)),yoo w5 (hx w5 (by simp))];have core:=fun c f0 f2 f3 f4 f6 f7 hc=>y31 hs hw c f0 f2 f3 f4 f6 f7 hc
  cases f0:(zq w0).2 with
  | false=>simp
  | true=>
  cases f2:(zme w2).2 with
  | false=>simp
  | true=>
  cases f3:(zq w3).2 with
  | false=>simp
  | true=>
  cases f4:(zif w4).2 with
  | false=>simp
  | true=>
  cases f6:(zwc w6).2 with
  | false=>simp
  | true=>
  cases f7:(zq w7).2 with
  | false=>simp
  | true=>
  have core:=fun c hc=>core c f0 f2 f3 f4 f6 f7 hc
  by_cases h5:w5=[45]
  ·have hd:zog w5=(zChr,false):=by rw[<- yoo w5 (hx w5 (by simp)),h5];exact yc1
   have:=core zChr (.inl ⟨h5,rfl⟩);rw[hd,show(w5 == [45])=true by simp[h5],show(w5 != [45])=false by simp[h5]];simp only[beq_self_eq_true,Bool.and_true,Bool.not_true,Bool.false_or,Bool.or_self,cond_true,cond_false];rw[this]
  ·rw[show(w5 == [45])=false by simp[h5],show(w5 != [45])=true by simp[h5]]
   rcases ydh w5 with hd|⟨c,g1,g2,⟨i,g3⟩,hd⟩
   ·rw[hd];simp
   ·have hg:c.Colors.length<9223372036854775808:=by
     rw[g3];have:=ypf (yh8 w5 (hx w5 (by simp))) i;omega
    have:=core c (.inr ⟨g1,g2,hg⟩);rw[hd];simp only[beq_self_eq_true,Bool.and_true,Bool.not_true,Bool.false_or,Bool.or_self,cond_true,cond_false];rw[this]
theorem ywc {n:Int} (h0:0<=n) (h1:n<=100000000):zv n=Lib.itoa n:=yxg n (by omega) (by omega)
theorem ydf {n:Int} (h0:0<=n) (h1:n<=100000000):zq (Lib.itoa n)=(n,true):=by
 refine ypp (by unfold E18;omega) ?_;have:=ysf n (by omega) (by omega);omega
theorem ymk (n:Int):(47:UInt8)∉Lib.itoa n:=ypg n 47 (by decide) (by decide)
theorem yxy (n:Int):(44:UInt8)∉Lib.itoa n:=ypg n 44 (by decide) (by decide)
theorem ytz {p:Point} (h:zdc p=true):0<=p.X/\p.X<=200000/\0<=p.Y/\p.Y<=200000:=by
 unfold zdc zn at h;simp only[Bool.and_eq_true,decide_eq_true_eq]at h;omega
theorem yk8 {p:Point} (h:zdc p=true):(47:UInt8)∉zye p:=by
 obtain⟨h1,h2,h3,h4⟩:=ytz h;unfold zye;rw[ywc h1 (by omega),ywc h3 (by omega)];intro hm;simp only[List.mem_append,List.mem_cons,List.not_mem_nil,or_false]at hm;rcases hm with(hm|hm)|hm
 ·exact ymk _ hm
 ·exact absurd hm (by decide)
 ·exact ymk _ hm
theorem ye7 {p:Point} (h:zdc p=true):zme (zye p)=(p,true):=by
 obtain⟨h1,h2,h3,h4⟩:=ytz h;have hl:=(yq7 h).2
 have e:ym 44 (zye p)=[Lib.itoa p.X,Lib.itoa p.Y]:=by
  unfold zye;rw[ywc h1 (by omega),ywc h3 (by omega),List.append_assoc,List.singleton_append,y7 44 _ _ (yxy _),ykb 44 _ (yxy _)]
 unfold zme;rw[yxh _ 44 44 rfl (by omega),e];simp only[List.getD_cons_zero,List.getD_cons_succ];rw[ydf h1 (by omega),ydf h3 (by omega)];have:({ X:=p.X,Y:=p.Y }:Point)=p:=rfl;simp only[this,h];rfl
theorem yi5 {c:Character} (h:zvc c=true):c=zChr:=by
 obtain⟨K,G,L,C,P⟩:=c;unfold zvc at h;simp only[Bool.and_eq_true,beq_iff_eq]at h;obtain⟨⟨⟨⟨h1,h2⟩,h3⟩,h4⟩,h5⟩:=h;have hG:G=[]:=List.length_eq_zero_iff.1 (by omega);subst h1 hG h3 h4 h5;rfl
theorem yj5 {a:Aid} (h:zmb a=true) (hl:zpf a=false):a.Light=zChr:=by
 have hk:a.Light.Kind=0:=by
  unfold zpf at hl;simpa using hl
 unfold zmb at h
 cases hc:(((((!(zn a.Number 1 9999)) || (!(zlc a.Name))) || (!(zdc a.At))) || (!(zn a.Height 0 3000))) || (!(zuc a.Mark)))with
 | true=>rw[hc]at h;cases h
 | false=>
  rw[hc,cond_false]at h
  cases hp:zvc a.Light with
  | true=>exact yi5 hp
  | false=>
   rw[hp,cond_false]at h
   cases hd:(((!(ztb a.Light)) || (!(zn a.Intensity 1 100000000))) || (!(zy a.Sectors)))with
   | true=>rw[hd]at h;cases h
   | false=>
    simp only[Bool.or_eq_false_iff,Bool.not_eq_false']at hd;have g1:=hd.1.1;unfold ztb zod zof zn at g1;rw[hk]at g1;cases g1
theorem yar {a:Aid} (h:zmb a=true) (hl:a.Light.Colors.length<9223372036854775808):zwg (zsg a)=(a,true):=by
 have hlen:=(ykh h hl).2;obtain⟨n1,n2,hn,hp,h1,h2,hm,hlit,hs,i1,i2⟩:=y6e h;have hM:zrb a.Mark=true:=hm;have hMT:zjg a.Mark=zoe a.Mark:=by unfold zjg;rw[hM];rfl
 have hST:=yfg hs
 have key:∀ (w5:List UInt8),(47:UInt8)∉w5->(zsg a=Lib.itoa a.Number++47::(a.Name++47::(zye a.At++47::(Lib.itoa a.Height++47::(zoe a.Mark++47::(w5++47::(scsT a.Sectors++47::Lib.itoa a.Intensity))))))) ->
   ym 47 (zsg a)=[Lib.itoa a.Number,a.Name,zye a.At,Lib.itoa a.Height,zoe a.Mark,w5,scsT a.Sectors,Lib.itoa a.Intensity]:=fun w5 h5 e=>by
  rw[e,y7 47 _ _ (ymk _),y7 47 _ _ (ym3 hn),y7 47 _ _ (yk8 hp),y7 47 _ _ (ymk _),y7 47 _ _ (y11 hM),y7 47 _ _ h5,y7 47 _ _ (yx6 hs),ykb 47 _ (ymk _)]
 have hrM:zif (zoe a.Mark)=(a.Mark,true):=(yxr hM).2;have hrS:zwc (scsT a.Sectors)=(a.Sectors,true):=by rw[<- hST];exact yz4 hs
 unfold zwg;rw[yxh _ 47 47 rfl (by omega)]
 cases hlt:zpf a with
 | true=>
  have hok:=hlit hlt;have hv:zib a.Light=true:=by rw[yre _ hl];exact hok
  have hct:=ymh a.Light hv;have h47:(47:UInt8)∉zfd a.Light:=by rw[hct];exact yv5 _ hv hl
  have hcl:=(y0x hok hl).2
  have e:=key (zfd a.Light) h47 (by
   unfold zsg;rw[hlt,cond_true,ywc (by omega) (by omega),ywc h1 (by omega),ywc i1 i2,hMT,hST]
   simp)
  have hne:(zfd a.Light != [45])=true:=by
   rw[bne_iff_ne];intro e;rw[hct]at e;have:(32:UInt8)∈chrT a.Light:=by unfold chrT;simp
   rw[e]at this;exact absurd this (by decide)
  have hrd:zog (zfd a.Light)=(a.Light,true):=by
   rw[<- yoo _ (by omega),hct];exact ynp _ hv hl
  rw[e];simp only[List.getD_cons_zero,List.getD_cons_succ];rw[ydf (n:=a.Number) (by omega) (by omega),ydf h1 (by omega),ydf i1 i2,ye7 hp,hrM,hrS,hne,hrd];have ea:({ Number:=a.Number,Name:=a.Name,At:=a.At,Height:=a.Height,Mark:=a.Mark,Light:=a.Light,Sectors:=a.Sectors,Intensity:=a.Intensity:Aid })=a:=rfl;simp only[ea,h];rfl
 | false=>
  have hz:=yj5 h hlt
  have e:=key [45] (by decide) (by
   unfold zsg;rw[hlt,cond_false,ywc (by omega) (by omega),ywc h1 (by omega),ywc i1 i2,hMT,hST]
   simp)
  rw[e];simp only[List.getD_cons_zero,List.getD_cons_succ];rw[ydf (n:=a.Number) (by omega) (by omega),ydf h1 (by omega),ydf i1 i2,ye7 hp,hrM,hrS];have ea:({ Number:=a.Number,Name:=a.Name,At:=a.At,Height:=a.Height,Mark:=a.Mark,Light:=zChr,Sectors:=a.Sectors,Intensity:=a.Intensity:Aid })=a:=by rw[<- hz]
  simp only[ea,h];rfl
theorem yyo {a:Aid} (h:zmb a=true) (hl:a.Light.Colors.length<9223372036854775808):zje (zsc a)=(a,true):=by
 have ht:=ykh h hl;rw[ht.1,y5m _ (by omega),yar h hl]
def zzf (a0:(List Aid)):Bool:=
 (zmc a0)
namespace N17
theorem DD:DOk Tryz.prog (Go.Ab.DD [(49,dP D_zmc)]):=ya y43.e <| ye _
theorem dn:type_of% (@D_zmc.eq_1):=by and_intros<;>intros<;>rfl
theorem gr {p:Prop} (h:p:=by(grind [yjy]);first|done|fail):p:=h
theorem den (a0:(List Aid)) (hb0:a0.length<1099511627776) (hb1:∀ v∈a0,bdAid v):Den Tryz.prog 17 [encL 16 eAid a0] (.bool (zzf a0)):=by
 generalize hR:zzf a0=r;unfold zzf at hR;refine di Tryz.func17 Tryz.ntmps17 Tryz.results17 ?_;intro c hL hc hk;obtain⟨hL0,_⟩:=hL;have hw0:a0.length<9223372036854775808:=Nat.lt_succ_of_le (yc hL0).1;have hw1:∀ v∈a0,bwAid v:=fun v hv=>y5 v ((yc hL0).2 v hv)
 clear hL0;simp only[pars,Nat.zero_add];iterate 2 refine rS ?_
 refine AWP.ret ?_;subst hR;exact es
end N17
def D_zzf : DF
 | [x0]=>some (.bool (zzf (rdL dAid x0)),false,[wL 16 eAid dAid x0,(rdL dAid x0).length<1099511627776,∀ v∈(rdL dAid x0),bdAid v])
 | _=>none
theorem yd2:OkD Tryz.prog 17 D_zzf:=by unfold D_zzf;exact dk N17.den
def zrf (a0:(List Int)):Bool:=
 decide (1048576<(a0.length:Int))
namespace N23
theorem DD:DOk Tryz.prog (Go.Ab.DD []):=ye _
theorem den (a0:(List Int))  : Den Tryz.prog 23 [encL 1 eIu8 a0] (.bool (zrf a0)):=by
 generalize hR:zrf a0=r;unfold zrf at hR;refine di Tryz.func23 Tryz.ntmps23 Tryz.results23 ?_;intro c hL hc hk;obtain⟨hL0,_⟩:=hL;have hw0:a0.length<9223372036854775808:=Nat.lt_succ_of_le (yc hL0).1;clear hL0;simp only[pars,Nat.zero_add];iterate 2 refine rS ?_
 refine AWP.ret ?_;subst hR;exact es
end N23
def D_zrf : DF
 | [x0]=>some (.bool (zrf (rdL dIu8 x0)),false,[wL 1 eIu8 dIu8 x0])
 | _=>none
theorem yz1:OkD Tryz.prog 23 D_zrf:=by unfold D_zrf;exact dk N23.den
theorem y5v (s:List UInt8) (hs:s.length<=1048576):bdAid (zwg s).1:=by
 have e:=fun i=>y86 s 47 47 rfl hs i
 have hz:bdAid zAid:=by decide
 have key:∀ c:Character,bdCharacter c->bdAid ({ Number:=(zq ((ze s 47).getD 0 default)).1,Name:=((ze s 47).getD 1 default),At:=(zme ((ze s 47).getD 2 default)).1,Height:=(zq ((ze s 47).getD 3 default)).1,Mark:=(zif ((ze s 47).getD 4 default)).1,Light:=c,Sectors:=(zwc ((ze s 47).getD 6 default)).1,Intensity:=(zq ((ze s 47).getD 7 default)).1:Aid }):=fun c hc=>
  ⟨Nat.lt_of_le_of_lt (Nat.le_trans (e 1) hs) (by decide),yq8 _ (Nat.le_trans (e 4) hs),hc,yj8 _ (Nat.le_trans (e 6) hs)⟩
 unfold zwg;simp only[Bool.cond_eq_ite]
 (repeat' split)<;>first|exact hz|exact key _ (yv7 _ (Nat.le_trans (e 5) hs))|exact key _ (by decide)
theorem y9v (s:List UInt8) (hs:s.length<=1048576):bdAid (zje s).1:=by rw[y5m s hs];exact y5v s hs
def ztg (a0:(List Int)) (a1:(List Int)):Bool:=
 (bif ((zrf a0) || (zrf a1))then true else(bif (((zcc ((zpb a0).1) ((zpb a0).2)).2) == 0)then(bif (((((((((zpc ((zcc ((zpb a0).1) ((zpb a0).2)).1) (((zpb a0).2).Number)).2) != 0) || (!(zce ((zpc ((zcc ((zpb a0).1) ((zpb a0).2)).1) (((zpb a0).2).Number)).1) ((zpb a0).2)))) || (((zxd ((zcc ((zpb a0).1) ((zpb a0).2)).1) (((zpb a0).2).Number)).2) != 0)) || (!(zwe ((zxd ((zcc ((zpb a0).1) ((zpb a0).2)).1) (((zpb a0).2).Number)).1) ((zpb a0).1)))) || (!(zzf ((zcc ((zpb a0).1) ((zpb a0).2)).1)))) || (!((zje (zsc ((zpb a0).2))).2))) || (!(zce ((zje (zsc ((zpb a0).2))).1) ((zpb a0).2))))then false else(bif (((zvb ((zgb a1).1) ((zgb a1).2)).2) != 0)then((((zvb ((zgb a1).1) ((zgb a1).2)).1).length:Int) == 0)else(((((zpc ((zgb a1).1) (((zgb a1).2).Number)).2) == 0) && (((zvb ((zvb ((zgb a1).1) ((zgb a1).2)).1) ((zpc ((zgb a1).1) (((zgb a1).2).Number)).1)).2) == 0)) && (zwe ((zvb ((zvb ((zgb a1).1) ((zgb a1).2)).1) ((zpc ((zgb a1).1) (((zgb a1).2).Number)).1)).1) ((zgb a1).1)))))else(bif (((zvb ((zgb a1).1) ((zgb a1).2)).2) != 0)then((((zvb ((zgb a1).1) ((zgb a1).2)).1).length:Int) == 0)else(((((zpc ((zgb a1).1) (((zgb a1).2).Number)).2) == 0) && (((zvb ((zvb ((zgb a1).1) ((zgb a1).2)).1) ((zpc ((zgb a1).1) (((zgb a1).2).Number)).1)).2) == 0)) && (zwe ((zvb ((zvb ((zgb a1).1) ((zgb a1).2)).1) ((zpc ((zgb a1).1) (((zgb a1).2).Number)).1)).1) ((zgb a1).1))))))
namespace N5
theorem DD:DOk Tryz.prog (Go.Ab.DD [(17,dP D_zzf),(21,dP D_zsc),(23,dP D_zrf),(24,dP D_zpb),(25,dP D_zcc),(26,dP D_zpc),(27,dP D_zxd),(28,dP D_zje),(29,dP D_zce),(30,dP D_zwe),(31,dP D_zgb),(32,dP D_zvb)]):=ya yd2.e <| ya y0u.e <| ya yz1.e <| ya yn3.e <| ya yc2.e <| ya yj0.e <| ya ya0.e <| ya yy1.e <| ya yxv.e <| ya y70.e <| ya yh0.e <| ya yr1.e <| ye _
theorem dn:type_of% (And.intro @D_zzf.eq_1 <| And.intro @D_zsc.eq_1 <| And.intro @D_zrf.eq_1 <| And.intro @D_zpb.eq_1 <| And.intro @D_zcc.eq_1 <| And.intro @D_zpc.eq_1 <| And.intro @D_zxd.eq_1 <| And.intro @D_zje.eq_1 <| And.intro @D_zce.eq_1 <| And.intro @D_zwe.eq_1 <| And.intro @D_zgb.eq_1 <| @D_zvb.eq_1):=by and_intros<;>intros<;>rfl
theorem o0 {p:Prop} (h:p:=by(first|((repeat' with_reducible apply And.intro)<;>first|with_reducible assumption|omega|(intros;first|with_reducible assumption|omega|((repeat' with_reducible apply And.intro)<;>first|with_reducible assumption|omega))));first|done|fail):p:=h
set_option maxHeartbeats 4000000 in
set_option maxRecDepth 20000 in
theorem _root_.Go.Ab.ztg_den (a0:(List Int)) (a1:(List Int)) (hp0:∀ v∈a0,0<=v/\v<=255) (hp1:∀ v∈a1,0<=v/\v<=255):Den Tryz.prog 5 [encL 1 eIu8 a0,encL 1 eIu8 a1] (.bool (ztg a0 a1)):=by
 generalize hR:ztg a0 a1=r;unfold ztg at hR;refine di Tryz.func5 Tryz.ntmps5 Tryz.results5 ?_;intro c hL hc hk;obtain⟨hL0,hL1,_⟩:=hL;have hw0:a0.length<9223372036854775808:=Nat.lt_succ_of_le (yc hL0).1;have hw1:a1.length<9223372036854775808:=Nat.lt_succ_of_le (yc hL1).1;clear hL0 hL1;simp only[pars,Nat.zero_add];obtain⟨g1,g2,g3⟩:=y5l a0 hp0;obtain⟨k1,k2,k3⟩:=ybk a1 hp1;have g1L:=fun v h=>(g1 v h).1
 have k1L:=fun v h=>(k1 v h).1
 have g3L:=g3.1;have k3L:=k3.1;obtain⟨w1,w2⟩:=yw8 (by omega) g1 g3;have w1L:=fun v h=>(w1 v h).1
 have w3:=(yx4 (n:=((zpb a0).2).Number) w1).1;obtain⟨w4,w5⟩:=yd6 (n:=((zpb a0).2).Number) (by omega) w1;have w4L:=fun v h=>(w4 v h).1
 have w6:=y6r ((zpb a0).2) g3L;have w7:=y9v (zsc ((zpb a0).2)) (by omega);obtain⟨r1,r2⟩:=yxx k1 k3;have r1L:=fun v h=>(r1 v h).1
 have r3:=yx4 (n:=((zgb a1).2).Number) k1;have r3L:=r3.1;obtain⟨r4,r5⟩:=yxx r1 r3;have r4L:=fun v h=>(r4 v h).1
 iterate 2 refine rS ?_
 refine AWP.cond rfl (fun hb => ?_) (fun hb => ?_)
 ·replace hR:=ct hR
  refine rS ?_;refine AWP.ret ?_;subst hR;exact es
 ·replace hR:=cf hR
  iterate 3 refine rS ?_
  refine AWP.cond rfl (fun hb => ?_) (fun hb => ?_)
  ·replace hR:=ct hR
   iterate 4 refine rS ?_
   refine AWP.cond rfl (fun hb => ?_) (fun hb => ?_)
   ·replace hR:=ct hR
    refine rS ?_;refine AWP.ret ?_;subst hR;exact es
   ·replace hR:=cf hR
    iterate 3 refine rS ?_
    refine AWP.cond rfl (fun hb => ?_) (fun hb => ?_)
    ·replace hR:=ct hR
     refine rS ?_;refine AWP.ret ?_;subst hR;exact es
    ·replace hR:=cf hR
     iterate 3 refine rS ?_
     refine AWP.ret ?_;subst hR;exact es
  ·replace hR:=cf hR
   iterate 3 refine rS ?_
   refine AWP.cond rfl (fun hb => ?_) (fun hb => ?_)
   ·replace hR:=ct hR
    refine rS ?_;refine AWP.ret ?_;subst hR;exact es
   ·replace hR:=cf hR
    iterate 3 refine rS ?_
    refine AWP.ret ?_;subst hR;exact es
end N5
theorem y6i (a:Aid):zce a a=true:=by
 unfold zce zve;rw[yyj,y3f];simp
theorem yoh (l:List Aid):zwe l l=true:=by
 unfold zwe zmd;have h0:((l.length:Int) != (l.length:Int))=false:=by simp
 rw[h0,cond_false]
 have:∀ k i,yf (yzj l l) k i ()=.ok ():=by
  intro k
  induction k with
  | zero=>intro i;rfl
  | succ k ih=>
   intro i
   have hb:yzj l l i ()=.ok ():=by
    unfold yzj;rw[y6i];rfl
   simp only[yf,hb];exact ih (i+1)
 rw[this]
theorem yi7 {l:List Aid} {a:Aid} (hl:l.length<=1000) (hv:∀ v∈l,AidQ v) (ha:AidQ a) (h:(zcc l a).2=0):okA l/\zmb a=true/\hasN l a.Number=false/\zcc l a=(putA l a,0)/\okA (putA l a):=by
 rcases y7l AidQ (l:=l) (a:=a) hl (fun v h=>(hv v h).l) ha.l with⟨_,h2⟩|⟨h1,h2,h3,h4,h5⟩
 ·exact absurd h h2
 ·exact⟨h1,h2,h3,h4,(ya3 (fun _=>True) ⟨h1,fun _ _=>trivial⟩ ⟨h2,trivial⟩ h3 h5).1⟩
theorem y2s {l:List Aid} {a:Aid}:(putA l a).getD (upto l a.Number) default=a/\(putA l a).length=l.length+1/\(putA l a).take (upto l a.Number)++(putA l a).drop (upto l a.Number+1)=l:=by
 have hu:=yoe l a.Number;have ht:(l.take (upto l a.Number)).length=upto l a.Number:=by rw[List.length_take];omega
 unfold putA;refine⟨?_,?_,?_⟩
 ·rw[List.append_assoc,List.getD_eq_getElem?_getD,List.getElem?_append_right (by omega),ht]
  simp
 ·simp;omega
 ·rw[List.append_assoc,List.take_append_of_le_length (by omega),List.take_of_length_le (by omega),List.singleton_append]
  have:(l.take (upto l a.Number)++a::l.drop (upto l a.Number)).drop (upto l a.Number+1)=l.drop (upto l a.Number):=by
   rw[List.drop_append,List.drop_eq_nil_of_le (by omega),ht];simp
  rw[this,List.take_append_drop]
theorem yae {l:List Aid} {a:Aid}:upto (putA l a) a.Number=upto l a.Number:=by
 have hu:=yoe l a.Number;obtain⟨h1,h2,_⟩:=y2s (l:=l) (a:=a);refine ysy _ _ _ (by omega) (fun q hq => ?_) (fun _=>by rw[h1];omega)
 have e:(putA l a).getD q default=l.getD q default:=by
  unfold putA;rw[List.append_assoc,List.getD_eq_getElem?_getD,List.getElem?_append_left (by rw[List.length_take];omega),List.getElem?_take,if_pos hq, <- List.getD_eq_getElem?_getD]
 rw[e];exact yin l _ q hq
theorem yjt {l:List Aid} {n:Int} (h1:upto l n<l.length) (h2:(l.getD (upto l n) default).Number=n):hasN l n=true:=by
 unfold hasN;rw[decide_eq_true h1,h2];simp
theorem yl4 {l:List Aid} {n:Int} (hv:∀ v∈l,aidL v) (hl:l.length<=1000) (ho:okA l) (hn:hasN l n=true):zpc l n=(l.getD (upto l n) default,0):=by
 unfold zpc;rw[y0c l hv,(y3h l).2 ho,ywe l n (by omega),hn];simp only[Bool.not_true,cond_false,ysc,Int.toNat_natCast]
theorem y5z {l:List Aid} {a:Aid} (hl:l.length<=1000) (hv:∀ v∈l,AidQ v) (ha:AidQ a) (ho:okA (putA l a)):zxd (putA l a) a.Number=(l,0):=by
 have hvL:∀ v∈putA l a,aidL v:=fun v h=>by
  unfold putA at h;simp only[List.mem_append,List.mem_singleton]at h;rcases h with(h|h)|h
  ·exact(hv v (List.mem_of_mem_take h)).l
  ·subst h;exact ha.l
  ·exact(hv v (List.mem_of_mem_drop h)).l
 obtain⟨h1,h2,h3⟩:=y2s (l:=l) (a:=a);have hu:=yoe l a.Number;have hn:hasN (putA l a) a.Number=true:=yjt (by rw[yae];omega) (by rw[yae,h1]);unfold zxd;rw[y0c _ hvL,(y3h _).2 ho,ywe _ _ (by omega),hn];simp only[Bool.not_true,cond_false,yeb];rw[yae];unfold zaf;have hw:(IntKind.wrap .i64 ((upto l a.Number:Int)+1)).toNat=upto l a.Number+1:=by rw[IntKind.wrap_i64];omega
 rw[hw,Int.toNat_natCast,h3]
theorem adds {l:List Aid} {a:Aid} (hl:l.length<=1000) (hv:∀ v∈l,AidQ v) (ha:AidQ a) (h:(zcc l a).2=0) :
  (((((((((zpc ((zcc l a).1) (a.Number)).2) != 0) || (!(zce ((zpc ((zcc l a).1) (a.Number)).1) a))) || (((zxd ((zcc l a).1) (a.Number)).2) != 0)) || (!(zwe ((zxd ((zcc l a).1) (a.Number)).1) l))) || (!(zzf ((zcc l a).1)))) || (!((zje (zsc a)).2))) || (!(zce ((zje (zsc a)).1) a)))=false:=by
 obtain⟨h1,h2,h3,h4,h5⟩:=yi7 hl hv ha h
 have hvL:∀ v∈putA l a,aidL v:=fun v h=>by
  unfold putA at h;simp only[List.mem_append,List.mem_singleton]at h;rcases h with(h|h)|h
  ·exact(hv v (List.mem_of_mem_take h)).l
  ·subst h;exact ha.l
  ·exact(hv v (List.mem_of_mem_drop h)).l
 obtain⟨p1,p2,_⟩:=y2s (l:=l) (a:=a);have hu:=yoe l a.Number;have hn:hasN (putA l a) a.Number=true:=yjt (by rw[yae];omega) (by rw[yae,p1]);rw[h4];simp only;rw[yl4 hvL (by have:=h5.2.2;omega) h5 hn,yae,p1,y5z hl hv ha h5,yyo h2 ha.l.1];have:zzf (putA l a)=true:=(y3h _).2 h5;simp only[this,y6i,yoh];rfl
theorem set_set {α:Type} [Inhabited α] (l:List α) (i:Nat) (a:α):(l.set i a).set i (l.getD i default)=l:=by
 rw[List.set_set];by_cases h:i<l.length
 ·rw[List.getD_eq_getElem?_getD,List.getElem?_eq_getElem h]
  simp
 ·rw[List.set_eq_of_length_le (by omega)]
theorem y48 {l:List Aid} {b:Aid} (hl:l.length<=1000) (hv:∀ v∈l,AidQ v) (hb:AidQ b):(bif (((zvb l b).2) != 0)then((((zvb l b).1).length:Int) == 0)else(((((zpc l (b.Number)).2) == 0) && (((zvb ((zvb l b).1) ((zpc l (b.Number)).1)).2) == 0)) && (zwe ((zvb ((zvb l b).1) ((zpc l (b.Number)).1)).1) l)))=true:=by
 have hvL:∀ v∈l,aidL v:=fun v h=>(hv v h).l
 have hR:zvb l b=bif ((!(zmc l)) || (!(zmb b)))then([],1)else(bif (!(hasN l b.Number))then([],3)else(l.set (upto l b.Number) b,0)):=by
  unfold zvb;rw[y0c l hvL,y8b b hb.l.1 hb.l.2,ywe l _ (by omega)];simp only[yeb,ysc,Int.toNat_natCast]
 cases hc:((!(zmc l)) || (!(zmb b)))with
 | true=>rw[hR,hc];rfl
 | false=>
  cases hn:hasN l b.Number with
  | false=>rw[hR,hc,hn];rfl
  | true=>
   rw[hc,hn]at hR;simp only[cond_false,Bool.not_true]at hR;rw[hR];rw[Bool.or_eq_false_iff,Bool.not_eq_false',Bool.not_eq_false']at hc;have ho:=(y3h l).1 hc.1;have hnum:=yl4 hvL hl ho hn;rw[hnum];obtain⟨hlt,hnn⟩:=ybx hn
   have hmem:l.getD (upto l b.Number) default∈l:=by
    rw[List.getD_eq_getElem?_getD,List.getElem?_eq_getElem hlt];exact List.getElem_mem hlt
   generalize hold:l.getD (upto l b.Number) default=old at hnn hmem;have hok2:okA (l.set (upto l b.Number) b):=(yp5 (fun _=>True) ⟨ho,fun _ _=>trivial⟩ ⟨hc.2,trivial⟩ hn).1;have hvL2:∀ v∈l.set (upto l b.Number) b,aidL v:=yis aidL l _ _ hvL hb.l;have hlen:(l.set (upto l b.Number) b).length=l.length:=List.length_set
   have hup:upto (l.set (upto l b.Number) b) old.Number=upto l b.Number:=by
    rw[hnn];refine ysy _ _ _ (by omega) (fun q hq => ?_) (fun _ => ?_)
    ·rw[List.getD_eq_getElem?_getD,List.getElem?_set_ne (by omega), <- List.getD_eq_getElem?_getD]
     exact yin l _ q hq
    ·rw[List.getD_eq_getElem?_getD,List.getElem?_set_self hlt]
     simp
   have hn2:hasN (l.set (upto l b.Number) b) old.Number=true:=yjt (by rw[hup,hlen];exact hlt) (by
    rw[hup,List.getD_eq_getElem?_getD,List.getElem?_set_self hlt,hnn];rfl)
   have hold1:=ho.1 old hmem
   have hR2:zvb (l.set (upto l b.Number) b) old=(l,0):=by
    unfold zvb;rw[y0c _ hvL2,y8b old (hvL old hmem).1 (hvL old hmem).2,(y3h _).2 hok2,hold1,ywe _ _ (by omega),hn2];simp only[Bool.not_true,Bool.or_self,cond_false,yeb,ysc,Int.toNat_natCast];rw[hup, <- hold,set_set]
   have hne:(((l.set (upto l b.Number) b,(0:Int)).2) != 0)=false:=rfl;simp only;rw[hR2];simp only[yoh];rfl
theorem yow (a0 a1:List Int) (hp0:∀ v∈a0,0<=v/\v<=255) (hp1:∀ v∈a1,0<=v/\v<=255):ztg a0 a1=true:=by
 unfold ztg;obtain⟨g1,g2,g3⟩:=y5l a0 hp0;obtain⟨k1,k2,k3⟩:=ybk a1 hp1;generalize (zpb a0).1=l at g1 g2 ⊢;generalize (zpb a0).2=a at g3 ⊢;generalize (zgb a1).1=o at k1 k2 ⊢;generalize (zgb a1).2=b at k3 ⊢
 cases(zrf a0 || zrf a1)with
 | true=>rfl
 | false=>
  rw[cond_false,y48 (by omega) k1 k3]
  cases hc:((zcc l a).2 == 0)with
  | false=>rfl
  | true=>
   rw[beq_iff_eq]at hc;rw[cond_true,adds (by omega) g1 g3 hc];rfl
end Go.Ab
