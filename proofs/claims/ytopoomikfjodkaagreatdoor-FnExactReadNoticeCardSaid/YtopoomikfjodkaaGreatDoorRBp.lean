/- A part of a proof: walks of functions and lemmas of our own. No conditions. -/
import Derived.Test.YtopoomikfjodkaaGreatDoorRAl
import Derived.Test.YtopoomikfjodkaaGreatDoorRBd
import Derived.Test.YtopoomikfjodkaaGreatDoorRBc
import Derived.Test.YtopoomikfjodkaaGreatDoorRBm
import Derived.Test.YtopoomikfjodkaaGreatDoorRBo
import Derived.Test.YtopoomikfjodkaaGreatDoorRBj
import Derived.Test.YtopoomikfjodkaaGreatDoorRBl
import Derived.Test.YtopoomikfjodkaaGreatDoorRBk
import Derived.Test.YtopoomikfjodkaaGreatDoorRAs
import Derived.Test.YtopoomikfjodkaaGreatDoorRAi
import Derived.Test.YtopoomikfjodkaaGreatDoorRAq
import Derived.Test.YtopoomikfjodkaaGreatDoorRAv
import Derived.Test.YtopoomikfjodkaaGreatDoorRAy
import Derived.Test.YtopoomikfjodkaaGreatDoorRBe
import Derived.Test.YtopoomikfjodkaaGreatDoorRAw
set_option linter.unusedSectionVars false
set_option linter.unusedVariables false
set_option linter.unusedSimpArgs false
set_option maxHeartbeats 1000000
namespace Go.Ab
open Go Go.Proofs
def ztb (a0:(List UInt8)):(Aid×Bool):=
 (bif (((za a0 47).length:Int) != 8)then({ Number:=0,Name:=[],At:={ X:=0,Y:=0:Point },Height:=0,Mark:={ Kind:=0,Colors:=[],Shape:=[],Topmark:=[]:Mark },Light:={ Kind:=0,Group:=[],Letter:=[],Colors:=[],Period:=0:Character },Sectors:=[],Intensity:=0:Aid },false)else(bif ((((((!((zf ((za a0 47).getD 0 default)).2)) || (!((zrc ((za a0 47).getD 2 default)).2))) || (!((zf ((za a0 47).getD 3 default)).2))) || (!((zid ((za a0 47).getD 4 default)).2))) || (!((zlb ((za a0 47).getD 6 default)).2))) || (!((zf ((za a0 47).getD 7 default)).2)))then({ Number:=0,Name:=[],At:={ X:=0,Y:=0:Point },Height:=0,Mark:={ Kind:=0,Colors:=[],Shape:=[],Topmark:=[]:Mark },Light:={ Kind:=0,Group:=[],Letter:=[],Colors:=[],Period:=0:Character },Sectors:=[],Intensity:=0:Aid },false)else(bif (((za a0 47).getD 5 default) != [45])then(bif (!((zje ((za a0 47).getD 5 default)).2))then({ Number:=0,Name:=[],At:={ X:=0,Y:=0:Point },Height:=0,Mark:={ Kind:=0,Colors:=[],Shape:=[],Topmark:=[]:Mark },Light:={ Kind:=0,Group:=[],Letter:=[],Colors:=[],Period:=0:Character },Sectors:=[],Intensity:=0:Aid },false)else(bif (!(zcc ({ Number:=(zf ((za a0 47).getD 0 default)).1,Name:=((za a0 47).getD 1 default),At:=(zrc ((za a0 47).getD 2 default)).1,Height:=(zf ((za a0 47).getD 3 default)).1,Mark:=(zid ((za a0 47).getD 4 default)).1,Light:=(zje ((za a0 47).getD 5 default)).1,Sectors:=(zlb ((za a0 47).getD 6 default)).1,Intensity:=(zf ((za a0 47).getD 7 default)).1:Aid })))then({ Number:=0,Name:=[],At:={ X:=0,Y:=0:Point },Height:=0,Mark:={ Kind:=0,Colors:=[],Shape:=[],Topmark:=[]:Mark },Light:={ Kind:=0,Group:=[],Letter:=[],Colors:=[],Period:=0:Character },Sectors:=[],Intensity:=0:Aid },false)else({ Number:=(zf ((za a0 47).getD 0 default)).1,Name:=((za a0 47).getD 1 default),At:=(zrc ((za a0 47).getD 2 default)).1,Height:=(zf ((za a0 47).getD 3 default)).1,Mark:=(zid ((za a0 47).getD 4 default)).1,Light:=(zje ((za a0 47).getD 5 default)).1,Sectors:=(zlb ((za a0 47).getD 6 default)).1,Intensity:=(zf ((za a0 47).getD 7 default)).1:Aid },true)))else(bif (!(zcc ({ Number:=(zf ((za a0 47).getD 0 default)).1,Name:=((za a0 47).getD 1 default),At:=(zrc ((za a0 47).getD 2 default)).1,Height:=(zf ((za a0 47).getD 3 default)).1,Mark:=(zid ((za a0 47).getD 4 default)).1,Light:={ Kind:=0,Group:=[],Letter:=[],Colors:=[],Period:=0:Character },Sectors:=(zlb ((za a0 47).getD 6 default)).1,Intensity:=(zf ((za a0 47).getD 7 default)).1:Aid })))then({ Number:=0,Name:=[],At:={ X:=0,Y:=0:Point },Height:=0,Mark:={ Kind:=0,Colors:=[],Shape:=[],Topmark:=[]:Mark },Light:={ Kind:=0,Group:=[],Letter:=[],Colors:=[],Period:=0:Character },Sectors:=[],Intensity:=0:Aid },false)else({ Number:=(zf ((za a0 47).getD 0 default)).1,Name:=((za a0 47).getD 1 default),At:=(zrc ((za a0 47).getD 2 default)).1,Height:=(zf ((za a0 47).getD 3 default)).1,Mark:=(zid ((za a0 47).getD 4 default)).1,Light:={ Kind:=0,Group:=[],Letter:=[],Colors:=[],Period:=0:Character },Sectors:=(zlb ((za a0 47).getD 6 default)).1,Intensity:=(zf ((za a0 47).getD 7 default)).1:Aid },true)))))
namespace N134
theorem DD:DOk Tryz.prog (Go.Ab.DD [(165,dP D_za),(168,dP D_zf),(230,dP D_zrc),(231,dP D_zid),(232,dP D_zlb),(233,dP D_zje),(98,dP D_zcc)]):=ya yvh.e <| ya ynj.e <| ya yi7.e <| ya yo5.e <| ya yq8.e <| ya yx7.e <| ya y4x.e <| yc _
theorem dn:type_of% (And.intro @D_za.eq_1 <| And.intro @D_zf.eq_1 <| And.intro @D_zrc.eq_1 <| And.intro @D_zid.eq_1 <| And.intro @D_zlb.eq_1 <| And.intro @D_zje.eq_1 <| @D_zcc.eq_1):=by and_intros<;>intros<;>rfl
theorem gr {p:Prop} (h:p:=by(grind [y4,yfc]);first|done|fail):p:=h
set_option maxHeartbeats 4000000 in
set_option maxRecDepth 20000 in
theorem den (a0:(List UInt8)) (hb0:a0.length<1099511627776) (hp0:a0.length≤1048576):Den Tryz.prog 134 [.str a0] (.tup [.agg (yfh ((ztb a0).1)),.bool ((ztb a0).2)]):=by
 generalize hR:ztb a0=r
 unfold ztb at hR
 refine di Tryz.func134 Tryz.ntmps134 Tryz.results134 ?_
 intro c hL hc hk
 obtain⟨hL0,_⟩:=hL
 have hw0:a0.length<9223372036854775808:=Nat.lt_succ_of_le hL0
 clear hL0
 simp only[pars,Nat.zero_add]
 have e1:=fun i=>ypd a0 47 47 rfl (by omega) i
 have s0_:=e1 0
 have s1_:=e1 1
 have s2_:=e1 2
 have s3_:=e1 3
 have s4_:=e1 4
 have s5_:=e1 5
 have s6_:=e1 6
 have s7_:=e1 7
 have b4:=yt9 ((za a0 47).getD 4 default) (by omega)
 have b5:=yq9 ((za a0 47).getD 5 default) (by omega)
 have b6:=y18 ((za a0 47).getD 6 default) (by omega)
 have b61:=b6.1
 have b62:=b6.2
 iterate 3 refine rS ?_
 refine AWP.cond rfl (fun hb => ?_) (fun hb => ?_)
 ·replace hR:=ct hR
  refine rS ?_
  refine AWP.ret ?_
  subst hR
  exact es
 ·replace hR:=cf hR
  iterate 8 refine rS ?_
  refine AWP.cond rfl (fun hb => ?_) (fun hb => ?_)
  ·replace hR:=ct hR
   refine rS ?_
   refine AWP.ret ?_
   subst hR
   exact es
  ·replace hR:=cf hR
   iterate 7 refine rS ?_
   refine AWP.cond rfl (fun hb => ?_) (fun hb => ?_)
   ·replace hR:=ct hR
    iterate 2 refine rS ?_
    refine AWP.cond rfl (fun hb => ?_) (fun hb => ?_)
    ·replace hR:=ct hR
     refine rS ?_
     refine AWP.ret ?_
     subst hR
     exact es
    ·replace hR:=cf hR
     iterate 2 refine rS ?_
     refine AWP.cond rfl (fun hb => ?_) (fun hb => ?_)
     ·replace hR:=ct hR
      refine rS ?_
      refine AWP.ret ?_
      subst hR
      exact es
     ·replace hR:=cf hR
      refine rS ?_
      refine AWP.ret ?_
      subst hR
      exact es
   ·replace hR:=cf hR
    refine rS ?_
    refine AWP.cond rfl (fun hb => ?_) (fun hb => ?_)
    ·replace hR:=ct hR
     refine rS ?_
     refine AWP.ret ?_
     subst hR
     exact es
    ·replace hR:=cf hR
     refine rS ?_
     refine AWP.ret ?_
     subst hR
     exact es
end N134
def D_ztb : DF
 | [x0]=>some (.tup [.agg (yfh ((ztb (rdS x0)).1)),.bool ((ztb (rdS x0)).2)],false,[wS x0,(rdS x0).length<1099511627776,(rdS x0).length≤1048576])
 | _=>none
theorem yux:OkD Tryz.prog 134 D_ztb:=by unfold D_ztb;exact dk N134.den
end Go.Ab

namespace Go.Ab
open Go Go.Proofs
abbrev zAid:Aid:={ Number:=0,Name:=[],At:={ X:=0,Y:=0:Point },Height:=0,Mark:={ Kind:=0,Colors:=[],Shape:=[],Topmark:=[]:Mark },Light:={ Kind:=0,Group:=[],Letter:=[],Colors:=[],Period:=0:Character },Sectors:=[],Intensity:=0 }
abbrev zChr:Character:={ Kind:=0,Group:=[],Letter:=[],Colors:=[],Period:=0 }
theorem yz4:zbd [45]=(zChr,false):=by decide +kernel
theorem ymdb {α:Type} (l:List α) (h:l.length=8):∃ a b c d e f g k,l=[a,b,c,d,e,f,g,k]:=by
 match l,h with
 | [a,b,c,d,e,f,g,k],_=>exact⟨a,b,c,d,e,f,g,k,rfl⟩
theorem yh4 {s w0 w1 w2 w3 w4 w5 w6 w7 : List UInt8} (hs : s.length ≤ 1048576) (hw : yh 47 s = [w0, w1, w2, w3, w4, w5, w6, w7]) (c : Character) (f0 : (zf w0).2 = true) (f2 : (zrc w2).2 = true) (f3 : (zf w3).2 = true)
  (f4:(zid w4).2=true) (f6:(zlb w6).2=true) (f7:(zf w7).2=true) (hc:(w5=[45]∧c=zChr)∨(znc c=true∧zub c=w5∧c.Colors.length<9223372036854775808)) :
  (zsc ({ Number:=(zf w0).1,Name:=w1,At:=(zrc w2).1,Height:=(zf w3).1,Mark:=(zid w4).1,Light:=c,Sectors:=(zlb w6).1,Intensity:=(zf w7).1:Aid }) != s) = !(zcc ({ Number:=(zf w0).1,Name:=w1,At:=(zrc w2).1,Height:=(zf w3).1,Mark:=(zid w4).1,Light:=c,Sectors:=(zlb w6).1,Intensity:=(zf w7).1:Aid })):=by
 have hj:=yyd 47 s
 have hl:=(yx 47 s).2
 rw[hw]at hj hl
 have hx:∀ x∈[w0,w1,w2,w3,w4,w5,w6,w7],x.length≤1048576:=fun x h=>by have:=hl x h;omega
 have q2:=yhv w2 (hx w2 (by simp)) f2
 have q4:=y7bb.r2 w4 (hx w4 (by simp)) f4
 have q6:=y2cb.r2 w6 (hx w6 (by simp)) f6
 have hcol:c.Colors.length<9223372036854775808:=by
  rcases hc with⟨_,e⟩|⟨_,_,e⟩
  ·rw[e];decide
  ·exact e
 generalize ha:({ Number:=(zf w0).1,Name:=w1,At:=(zrc w2).1,Height:=(zf w3).1,Mark:=(zid w4).1,Light:=c,Sectors:=(zlb w6).1,Intensity:=(zf w7).1:Aid })=a
 have e1:a.Number=(zf w0).1:=by rw[← ha]
 have e2:a.Name=w1:=by rw[← ha]
 have e3:a.At=(zrc w2).1:=by rw[← ha]
 have e4:a.Height=(zf w3).1:=by rw[← ha]
 have e5:a.Mark=(zid w4).1:=by rw[← ha]
 have e6:a.Light=c:=by rw[← ha]
 have e7:a.Sectors=(zlb w6).1:=by rw[← ha]
 have e8:a.Intensity=(zf w7).1:=by rw[← ha]
 have hsl:a.Sectors.length<9223372036854775807:=by rw[e7];have:=(yxf q6.1).1;omega
 have hcl:a.Light.Colors.length<9223372036854775808:=by rw[e6];exact hcol
 cases h:zcc a with
 | false=>
  have:zsc a=[]:=by unfold zsc;rw[y3d a hcl hsl,h];rfl
  rw[this,Bool.not_false,bne_iff_ne]
  intro e
  rw[← e]at hw
  cases hw
 | true=>
  rw[(yhp h hcl).1,Bool.not_true,bne_eq_false_iff_eq]
  obtain⟨n1,n2,_,_,h1,h2,_,_,_,i1,i2⟩:=yfg h
  have t1:zk a.Number=w0:=by rw[y9f _ (by omega) (by omega),e1];exact(y5c (hx w0 (by simp)) f0).1.symm
  have t4:zk a.Height=w3:=by rw[y9f _ (by omega) (by omega),e4];exact(y5c (hx w3 (by simp)) f3).1.symm
  have t8:zk a.Intensity=w7:=by rw[y9f _ (by omega) (by omega),e8];exact(y5c (hx w7 (by simp)) f7).1.symm
  have t3:zji a.At=w2:=by rw[e3];exact q2.2.symm
  have t5:zii a.Mark=w4:=by
   rw[e5]
   have hm:zgb (zid w4).1=true:=q4.1
   unfold zii
   rw[hm]
   exact q4.2.symm
  have t7:zlh a.Sectors=w6:=by rw[e7];exact q6.2.symm
  have t6:(zei a=true∧zub a.Light=w5)∨(zei a=false∧[45]=w5):=by
   unfold zei
   rw[e6]
   rcases hc with⟨g1,g2⟩|⟨g1,g2,g3⟩
   ·right;rw[g2];exact⟨rfl,g1.symm⟩
   ·left
    have:=(ye1 c g3 g1).2.2.1
    exact⟨by rw[bne_iff_ne];omega,g2⟩
  rw[← hj]
  unfold zni
  rcases t6 with⟨g1,g2⟩|⟨g1,g2⟩
  ·rw[g1,cond_true,t1,e2,t3,t4,t5,g2,t7,t8]
   simp[yvk]
  ·rw[g1,cond_false,t1,e2,t3,t4,t5,g2,t7,t8]
   simp[yvk]
theorem yyg (s:List UInt8) (hs:s.length≤1048576):zqd s=ztb s:=by
 unfold zqd ztb
 rw[ygs,ylh s 47 47 rfl hs]
 cases hl:(((yh 47 s).length:Int) != 8)with
 | true=>rfl
 | false=>
  have hl:(yh 47 s).length=8:=by have h:=hl;simp at h;omega
  obtain⟨w0,w1,w2,w3,w4,w5,w6,w7,hw⟩:=ymdb _ hl
  have hx:=(yx 47 s).2
  rw[hw]at hx ⊢
  have hx:∀ x∈[w0,w1,w2,w3,w4,w5,w6,w7],x.length≤1048576:=fun x h=>by have:=hx x h;omega
  simp only[cond_false,List.getD_cons_zero,List.getD_cons_succ]
  rw[yte w0 (hx w0 (by simp)),yte w3 (hx w3 (by simp)),yte w7 (hx w7 (by simp)),y01 w2 (hx w2 (by simp)),yyt w4 (hx w4 (by simp)),y4s w6 (hx w6 (by simp)),yiu w5 (hx w5 (by simp))]
  have core:=fun c f0 f2 f3 f4 f6 f7 hc=>yh4 hs hw c f0 f2 f3 f4 f6 f7 hc
  cases f0:(zf w0).2 with
  | false=>simp
  | true=>
  cases f2:(zrc w2).2 with
  | false=>simp
  | true=>
  cases f3:(zf w3).2 with
  | false=>simp
  | true=>
  cases f4:(zid w4).2 with
  | false=>simp
  | true=>
  cases f6:(zlb w6).2 with
  | false=>simp
  | true=>
  cases f7:(zf w7).2 with
  | false=>simp
  | true=>
  have core:=fun c hc=>core c f0 f2 f3 f4 f6 f7 hc
  by_cases h5:w5=[45]
  ·have hd:zje w5=(zChr,false):=by rw[← yiu w5 (hx w5 (by simp)),h5];exact yz4
   have:=core zChr (.inl ⟨h5,rfl⟩)
   rw[hd,show(w5 == [45])=true by simp[h5],show(w5 != [45])=false by simp[h5]]
   simp only[beq_self_eq_true,Bool.and_true,Bool.not_true,Bool.false_or,Bool.or_self,cond_true,cond_false]
   rw[this]
  ·rw[show(w5 == [45])=false by simp[h5],show(w5 != [45])=true by simp[h5]]
   rcases yki w5 with hd|⟨c,g1,g2,⟨i,g3⟩,hd⟩
   ·rw[hd];simp
   ·have hg:c.Colors.length<9223372036854775808:=by
     rw[g3]
     have:=yrc (yzcb w5 (hx w5 (by simp))) i
     omega
    have:=core c (.inr ⟨g1,g2,hg⟩)
    rw[hd]
    simp only[beq_self_eq_true,Bool.and_true,Bool.not_true,Bool.false_or,Bool.or_self,cond_true,cond_false]
    rw[this]
end Go.Ab

namespace Go.Ab
open Go Go.Proofs
theorem y0g (s:List UInt8) (hs:s.length≤1048576):bdAid (ztb s).1:=by
 have e:=fun i=>ypd s 47 47 rfl hs i
 have hz:bdAid zAid:=by decide
 have key:∀ c:Character,bdCharacter c→bdAid ({ Number:=(zf ((za s 47).getD 0 default)).1,Name:=((za s 47).getD 1 default),At:=(zrc ((za s 47).getD 2 default)).1,Height:=(zf ((za s 47).getD 3 default)).1,Mark:=(zid ((za s 47).getD 4 default)).1,Light:=c,Sectors:=(zlb ((za s 47).getD 6 default)).1,Intensity:=(zf ((za s 47).getD 7 default)).1:Aid }):=fun c hc=>
  ⟨Nat.lt_of_le_of_lt (Nat.le_trans (e 1) hs) (by decide),yt9 _ (Nat.le_trans (e 4) hs),hc,y18 _ (Nat.le_trans (e 6) hs)⟩
 unfold ztb
 simp only[Bool.cond_eq_ite]
 (repeat' split)<;>first|exact hz|exact key _ (yq9 _ (Nat.le_trans (e 5) hs))|exact key _ (by decide)
theorem yrz (s:List UInt8) (hs:s.length≤1048576):bdAid (zqd s).1:=by rw[yyg s hs];exact y0g s hs
end Go.Ab

namespace Go.Ab
open Go Go.Proofs
theorem fin2 {α:Type} {V:α→Prop} {z:α} (m:α) (c:Bool) (hc:c=false→V m):(bif c then(z,false)else(m,true))=(z,false)∨∃ p,(bif c then(z,false)else(m,true))=(p,true)∧V p:=by
 cases c with
 | true=>exact .inl rfl
 | false=>exact .inr ⟨m,rfl,hc rfl⟩
theorem ypu (s:List UInt8):ztb s=(zAid,false)∨∃ a,ztb s=(a,true)∧zcc a=true:=by
 unfold ztb
 cases(((za s 47).length:Int) != 8)with
 | true=>exact .inl rfl
 | false=>
  rw[cond_false]
  cases((((((!((zf ((za s 47).getD 0 default)).2)) || (!((zrc ((za s 47).getD 2 default)).2))) || (!((zf ((za s 47).getD 3 default)).2))) || (!((zid ((za s 47).getD 4 default)).2))) || (!((zlb ((za s 47).getD 6 default)).2))) || (!((zf ((za s 47).getD 7 default)).2)))with
  | true=>exact .inl rfl
  | false=>
   rw[cond_false]
   cases(((za s 47).getD 5 default) != [45])with
   | true=>
    rw[cond_true]
    cases(!((zje ((za s 47).getD 5 default)).2))with
    | true=>exact .inl rfl
    | false=>rw[cond_false];exact fin2 (V:=fun a=>zcc a=true) _ _ (fun h=>by simpa using h)
   | false=>rw[cond_false];exact fin2 (V:=fun a=>zcc a=true) _ _ (fun h=>by simpa using h)
theorem yx9 {a:Aid} (h:zcc a=true):a.Light.Group.length≤4∧a.Sectors.length≤12:=by
 refine⟨?_,(yxf (yfg h).2.2.2.2.2.2.2.2.1).1⟩
 cases ht:zei a with
 | true=>
  have hk:=(yfg h).2.2.2.2.2.2.2.1 ht
  unfold znc at hk
  cases hs:zag a.Light with
  | true=>exact(yym _ hs).1
  | false=>rw[hs]at hk;cases hk
 | false=>
  unfold zcc at h
  cases hc:(((((!(zg a.Number 1 9999)) || (!(zvd a.Name))) || (!(zgd a.At))) || (!(zg a.Height 0 3000))) || (!(zie a.Mark)))with
  | true=>rw[hc]at h;cases h
  | false=>
   rw[hc,cond_false]at h
   cases hp:zwe a.Light with
   | true=>
    unfold zwe at hp
    simp only[Bool.and_eq_true,beq_iff_eq]at hp
    have:=hp.1.1.1.2
    omega
   | false=>
    rw[hp,cond_false]at h
    cases hd:(((!(znc a.Light)) || (!(zg a.Intensity 1 100000000))) || (!(zx a.Sectors)))with
    | true=>rw[hd]at h;cases h
    | false=>
     simp only[Bool.or_eq_false_iff,Bool.not_eq_false']at hd
     have hk:=hd.1.1
     unfold znc at hk
     cases hs:zag a.Light with
     | true=>exact(yym _ hs).1
     | false=>rw[hs]at hk;cases hk
theorem yus (s:List UInt8):(ztb s).1.Light.Group.length≤4∧(ztb s).1.Sectors.length≤12:=by
 rcases ypu s with h|⟨a,h,h1⟩
 ·rw[h];exact⟨by simp,by simp⟩
 ·rw[h];exact yx9 h1
end Go.Ab

namespace Go.Ab
open Go Go.Proofs
def aidL (v:Aid):Prop:=v.Light.Colors.length<9223372036854775808∧v.Sectors.length<9223372036854775807
end Go.Ab


namespace Go.Ab
open Go Go.Proofs
theorem y0u (a b:Character):zxf a b=zzh a b:=by
 unfold zxf zzh
 rfl
theorem y9z (a b:Aid):zwh a b=zxg a b:=by
 unfold zwh zxg
 rw[y0u]
 rfl
end Go.Ab

namespace Go.Ab
open Go Go.Proofs
def znh (a0:Notice):Bool:=
 (bif (((!(ztd a0.Number)) || (!(zld a0.Day))) || (!(ze a0.Kind 1 4)))then false else(bif (zmd a0)then((zcg a0.Aid) && (a0.Target == 0))else((zwh a0.Aid ({ Number:=0,Name:=[],At:={ X:=0,Y:=0:Point },Height:=0,Mark:={ Kind:=0,Colors:=[],Shape:=[],Topmark:=[]:Mark },Light:={ Kind:=0,Group:=[],Letter:=[],Colors:=[],Period:=0:Character },Sectors:=[],Intensity:=0:Aid })) && (ztd a0.Target))))
namespace N125
theorem DD:DOk Tryz.prog (Go.Ab.DD [(104,dP D_zcg),(126,dP D_zmd),(181,dP D_ze),(209,dP D_ztd),(227,dP D_zld),(62,dP D_zwh)]):=ya yvy.e <| ya yiq.e <| ya y9b.e <| ya yoq.e <| ya ypp.e <| ya yz5.e <| yc _
theorem dn:type_of% (And.intro @D_zcg.eq_1 <| And.intro @D_zmd.eq_1 <| And.intro @D_ze.eq_1 <| And.intro @D_ztd.eq_1 <| And.intro @D_zld.eq_1 <| @D_zwh.eq_1):=by and_intros<;>intros<;>rfl
theorem ol:type_of% (@ze.eq_1):=@ze.eq_1
theorem den (a0:Notice) (hb0:bdNotice a0):Den Tryz.prog 125 [.agg (ygc a0)] (.bool (znh a0)):=by
 generalize hR:znh a0=r
 unfold znh at hR
 refine di Tryz.func125 Tryz.ntmps125 Tryz.results125 ?_
 intro c hL hc hk
 obtain⟨hL0,_⟩:=hL
 have hw0:bwNotice a0:=ytc a0 hL0
 clear hL0
 simp only[pars,Nat.zero_add]
 iterate 2 refine rS ?_
 refine AWP.cond rfl (fun hb => ?_) (fun hb => ?_)
 ·replace hR:=ct hR
  refine rS ?_
  refine AWP.ret ?_
  subst hR
  exact es
 ·replace hR:=cf hR
  refine rS ?_
  refine AWP.cond rfl (fun hb => ?_) (fun hb => ?_)
  ·replace hR:=ct hR
   refine rS ?_
   refine AWP.ret ?_
   subst hR
   exact es
  ·replace hR:=cf hR
   refine rS ?_
   refine AWP.ret ?_
   subst hR
   exact es
end N125
def D_znh : DF
 | [x0]=>some (.bool (znh (rdG ynb x0)),false,[wG ygc ynb x0,bdNotice (rdG ynb x0)])
 | _=>none
theorem yh5:OkD Tryz.prog 125 D_znh:=by unfold D_znh;exact dk N125.den
end Go.Ab

namespace Go.Ab
open Go Go.Proofs
def zse (a0:Notice):Bool:=
 (bif ((!(zg a0.Number 1 9999)) || (!(zyg a0.Day)))then false else(bif (a0.Kind == 1)then((zcc a0.Aid) && (a0.Target == 0))else(bif (a0.Kind == 2)then((zcc a0.Aid) && (a0.Target == 0))else(bif (a0.Kind == 3)then((zxg a0.Aid ({ Number:=0,Name:=[],At:={ X:=0,Y:=0:Point },Height:=0,Mark:={ Kind:=0,Colors:=[],Shape:=[],Topmark:=[]:Mark },Light:={ Kind:=0,Group:=[],Letter:=[],Colors:=[],Period:=0:Character },Sectors:=[],Intensity:=0:Aid })) && (zg a0.Target 1 9999))else(bif (a0.Kind == 4)then((zxg a0.Aid ({ Number:=0,Name:=[],At:={ X:=0,Y:=0:Point },Height:=0,Mark:={ Kind:=0,Colors:=[],Shape:=[],Topmark:=[]:Mark },Light:={ Kind:=0,Group:=[],Letter:=[],Colors:=[],Period:=0:Character },Sectors:=[],Intensity:=0:Aid })) && (zg a0.Target 1 9999))else false)))))
namespace N123
theorem DD:DOk Tryz.prog (Go.Ab.DD [(170,dP D_zg),(223,dP D_zyg),(224,dP D_zxg),(98,dP D_zcc)]):=ya yrd.e <| ya yw7.e <| ya yu7.e <| ya y4x.e <| yc _
theorem dn:type_of% (And.intro @D_zg.eq_1 <| And.intro @D_zyg.eq_1 <| And.intro @D_zxg.eq_1 <| @D_zcc.eq_1):=by and_intros<;>intros<;>rfl
theorem ol:type_of% (@zg.eq_1):=@zg.eq_1
theorem den (a0:Notice) (hb0:bdNotice a0):Den Tryz.prog 123 [.ep (ygc a0)] (.bool (zse a0)):=by
 generalize hR:zse a0=r
 unfold zse at hR
 refine di Tryz.func123 Tryz.ntmps123 Tryz.results123 ?_
 intro c hL hc hk
 obtain⟨hL0,_⟩:=hL
 have hw0:bwNotice a0:=ytc a0 hL0
 clear hL0
 simp only[pars,Nat.zero_add]
 iterate 2 refine rS ?_
 refine AWP.cond rfl (fun hb => ?_) (fun hb => ?_)
 ·replace hR:=ct hR
  refine rS ?_
  refine AWP.ret ?_
  subst hR
  exact es
 ·replace hR:=cf hR
  iterate 3 refine rS ?_
  refine AWP.cond rfl (fun hb => ?_) (fun hb => ?_)
  ·replace hR:=ct hR
   refine AWP.skip ?_
   refine AWP.cond rfl (fun hb => ?_) (fun hb => ?_)
   ·refine rS ?_
    refine AWP.ret ?_
    subst hR
    exact es
   ·exfalso;simp_all
  ·replace hR:=cf hR
   refine rS ?_
   refine AWP.cond rfl (fun hb => ?_) (fun hb => ?_)
   ·replace hR:=ct hR
    refine rS ?_
    refine AWP.ret ?_
    subst hR
    exact es
   ·replace hR:=cf hR
    refine rS ?_
    refine AWP.cond rfl (fun hb => ?_) (fun hb => ?_)
    ·replace hR:=ct hR
     refine AWP.skip ?_
     refine AWP.cond rfl (fun hb => ?_) (fun hb => ?_)
     ·refine rS ?_
      refine AWP.ret ?_
      subst hR
      exact es
     ·exfalso;simp_all
    ·replace hR:=cf hR
     refine rS ?_
     refine AWP.cond rfl (fun hb => ?_) (fun hb => ?_)
     ·replace hR:=ct hR
      refine rS ?_
      refine AWP.ret ?_
      subst hR
      exact es
     ·replace hR:=cf hR
      refine rS ?_
      refine AWP.ret ?_
      subst hR
      exact es
end N123
def D_zse : DF
 | [x0]=>some (.bool (zse (rdP ynb x0)),false,[wP ygc ynb x0,bdNotice (rdP ynb x0)])
 | _=>none
theorem yl8:OkD Tryz.prog 123 D_zse:=by unfold D_zse;exact dk N123.den
end Go.Ab

namespace Go.Ab
open Go Go.Proofs
theorem yjg (n:Notice) (h:aidL n.Aid):znh n=zse n:=by
 unfold znh zse zmd
 rw[y3d _ h.1 h.2]
 simp only[y9z]
 have e1:ztd n.Number=zg n.Number 1 9999:=rfl
 have e2:ztd n.Target=zg n.Target 1 9999:=rfl
 have e3:zld n.Day=zyg n.Day:=rfl
 have e4:ze n.Kind 1 4=((((n.Kind == 1) || (n.Kind == 2)) || (n.Kind == 3)) || (n.Kind == 4)):=by
  unfold ze
  apply Bool.eq_iff_iff.2
  simp only[Bool.and_eq_true,Bool.or_eq_true,decide_eq_true_eq,beq_iff_eq]
  omega
 rw[e1,e2,e3,e4]
 cases zg n.Number 1 9999<;>cases zyg n.Day<;>cases(n.Kind == 1)<;>cases(n.Kind == 2)<;>cases(n.Kind == 3)<;>cases(n.Kind == 4)<;>rfl
end Go.Ab

namespace Go.Ab
open Go Go.Proofs
def zch (a0:Point) (a1:Point):Bool:=
 (bif (a0.X != a1.X)then false else(bif (a0.Y != a1.Y)then false else true))
namespace N110
theorem DD:DOk Tryz.prog (Go.Ab.DD []):=yc _
theorem den (a0:Point) (a1:Point)  : Den Tryz.prog 110 [.agg (ytd a0),.agg (ytd a1)] (.bool (zch a0 a1)):=by
 generalize hR:zch a0 a1=r
 unfold zch at hR
 refine di Tryz.func110 Tryz.ntmps110 Tryz.results110 ?_
 intro c hL hc hk
 clear hL
 simp only[pars,Nat.zero_add]
 iterate 2 refine rS ?_
 refine AWP.cond rfl (fun hb => ?_) (fun hb => ?_)
 ·replace hR:=ct hR
  refine rS ?_
  refine AWP.ret ?_
  subst hR
  exact es
 ·replace hR:=cf hR
  refine rS ?_
  refine AWP.cond rfl (fun hb => ?_) (fun hb => ?_)
  ·replace hR:=ct hR
   refine rS ?_
   refine AWP.ret ?_
   subst hR
   exact es
  ·replace hR:=cf hR
   refine rS ?_
   refine AWP.ret ?_
   subst hR
   exact es
end N110
def D_zch : DF
 | [x0,x1]=>some (.bool (zch (rdG y2f x0) (rdG y2f x1)),false,[wG ytd y2f x0,wG ytd y2f x1])
 | _=>none
theorem yj6:OkD Tryz.prog 110 D_zch:=by unfold D_zch;exact dk N110.den
end Go.Ab

namespace Go.Ab
open Go Go.Proofs
def zdh (a0:Mark) (a1:Mark):Bool:=
 (bif (a0.Kind != a1.Kind)then false else(bif (a0.Colors != a1.Colors)then false else(bif (a0.Shape != a1.Shape)then false else(bif (a0.Topmark != a1.Topmark)then false else true))))
namespace N111
theorem DD:DOk Tryz.prog (Go.Ab.DD []):=yc _
theorem den (a0:Mark) (a1:Mark)  : Den Tryz.prog 111 [.agg (y1c a0),.agg (y1c a1)] (.bool (zdh a0 a1)):=by
 generalize hR:zdh a0 a1=r
 unfold zdh at hR
 refine di Tryz.func111 Tryz.ntmps111 Tryz.results111 ?_
 intro c hL hc hk
 obtain⟨hL0,hL1,_⟩:=hL
 have hw0:bwMark a0:=y0d a0 hL0
 have hw1:bwMark a1:=y0d a1 hL1
 clear hL0 hL1
 simp only[pars,Nat.zero_add]
 iterate 2 refine rS ?_
 refine AWP.cond rfl (fun hb => ?_) (fun hb => ?_)
 ·replace hR:=ct hR
  refine rS ?_
  refine AWP.ret ?_
  subst hR
  exact es
 ·replace hR:=cf hR
  refine rS ?_
  refine AWP.cond rfl (fun hb => ?_) (fun hb => ?_)
  ·replace hR:=ct hR
   refine rS ?_
   refine AWP.ret ?_
   subst hR
   exact es
  ·replace hR:=cf hR
   refine rS ?_
   refine AWP.cond rfl (fun hb => ?_) (fun hb => ?_)
   ·replace hR:=ct hR
    refine rS ?_
    refine AWP.ret ?_
    subst hR
    exact es
   ·replace hR:=cf hR
    refine rS ?_
    refine AWP.cond rfl (fun hb => ?_) (fun hb => ?_)
    ·replace hR:=ct hR
     refine rS ?_
     refine AWP.ret ?_
     subst hR
     exact es
    ·replace hR:=cf hR
     refine rS ?_
     refine AWP.ret ?_
     subst hR
     exact es
end N111
def D_zdh : DF
 | [x0,x1]=>some (.bool (zdh (rdG ybf x0) (rdG ybf x1)),false,[wG y1c ybf x0,wG y1c ybf x1])
 | _=>none
theorem yc4:OkD Tryz.prog 111 D_zdh:=by unfold D_zdh;exact dk N111.den
end Go.Ab

namespace Go.Ab
open Go Go.Proofs
def zeh (a0:Sector) (a1:Sector):Bool:=
 (bif (a0.From != a1.From)then false else(bif (a0.To != a1.To)then false else(bif (a0.Color != a1.Color)then false else true)))
namespace N221
theorem DD:DOk Tryz.prog (Go.Ab.DD []):=yc _
theorem den (a0:Sector) (a1:Sector)  : Den Tryz.prog 221 [.agg (yk a0),.agg (yk a1)] (.bool (zeh a0 a1)):=by
 generalize hR:zeh a0 a1=r
 unfold zeh at hR
 refine di Tryz.func221 Tryz.ntmps221 Tryz.results221 ?_
 intro c hL hc hk
 obtain⟨hL0,hL1,_⟩:=hL
 have hw0:bwSector a0:=yt a0 hL0
 have hw1:bwSector a1:=yt a1 hL1
 clear hL0 hL1
 simp only[pars,Nat.zero_add]
 iterate 2 refine rS ?_
 refine AWP.cond rfl (fun hb => ?_) (fun hb => ?_)
 ·replace hR:=ct hR
  refine rS ?_
  refine AWP.ret ?_
  subst hR
  exact es
 ·replace hR:=cf hR
  refine rS ?_
  refine AWP.cond rfl (fun hb => ?_) (fun hb => ?_)
  ·replace hR:=ct hR
   refine rS ?_
   refine AWP.ret ?_
   subst hR
   exact es
  ·replace hR:=cf hR
   refine rS ?_
   refine AWP.cond rfl (fun hb => ?_) (fun hb => ?_)
   ·replace hR:=ct hR
    refine rS ?_
    refine AWP.ret ?_
    subst hR
    exact es
   ·replace hR:=cf hR
    refine rS ?_
    refine AWP.ret ?_
    subst hR
    exact es
end N221
def D_zeh : DF
 | [x0,x1]=>some (.bool (zeh (rdG yq x0) (rdG yq x1)),false,[wG yk yq x0,wG yk yq x1])
 | _=>none
theorem y13:OkD Tryz.prog 221 D_zeh:=by unfold D_zeh;exact dk N221.den
end Go.Ab

namespace Go.Ab
open Go Go.Proofs
def yjo (a0:(List Sector)) (a1:(List Sector)) (i1:Nat) (s1:Unit):Except (Bool) (Unit):=
 (bif (!(zeh (a0.getD i1 default) (a1.getD i1 default)))then .error false else .ok ())
def zze (a0:(List Sector)) (a1:(List Sector)):Bool:=
 (bif ((a0.length:Int) != (a1.length:Int))then false else(match ye (yjo a0 a1) (a0.length-0) 0 ()with|.error e=>e|.ok s1=>true))
namespace N113
theorem DD:DOk Tryz.prog (Go.Ab.DD [(221,dP D_zeh)]):=ya y13.e <| yc _
theorem dn:type_of% (@D_zeh.eq_1):=by and_intros<;>intros<;>rfl
theorem den (a0:(List Sector)) (a1:(List Sector))  : Den Tryz.prog 113 [encL 3 yk a0,encL 3 yk a1] (.bool (zze a0 a1)):=by
 generalize hR:zze a0 a1=r
 unfold zze at hR
 refine di Tryz.func113 Tryz.ntmps113 Tryz.results113 ?_
 intro c hL hc hk
 obtain⟨hL0,hL1,_⟩:=hL
 have hw0:a0.length<9223372036854775808:=Nat.lt_succ_of_le (yf hL0).1
 have hw1:∀ v∈a0,bwSector v:=fun v hv=>yt v ((yf hL0).2 v hv)
 have hw2:a1.length<9223372036854775808:=Nat.lt_succ_of_le (yf hL1).1
 have hw3:∀ v∈a1,bwSector v:=fun v hv=>yt v ((yf hL1).2 v hv)
 clear hL0 hL1
 simp only[pars,Nat.zero_add]
 iterate 2 refine rS ?_
 refine AWP.cond rfl (fun hb => ?_) (fun hb => ?_)
 ·replace hR:=ct hR
  refine rS ?_
  refine AWP.ret ?_
  subst hR
  exact es
 ·replace hR:=cf hR
  refine rS ?_
  refine AWP.block ?_
  generalize hz1:ye (yjo a0 a1) (a0.length-0) 0 ()=z1 at hR
  refine AWP.range (yjo a0 a1) (fun i1 s1=>⟨[(0,encL 3 yk a0),(1,encL 3 yk a1),(5,.int .i64 (i1:Int))],[]⟩) (fun i1 s1=>True) (a0.length) 0 () [] hz1 ot wt sm ?_
  clear hz1
  intro i1 s1 hi1 hW1 hz1
  refine rS ?_
  refine AWP.cond rfl (fun hb => ?_) (fun hb => ?_)
  ·have hlt1:i1<a0.length:=ot
   rw[yj hlt1]at hz1;simp only[yjo]at hz1
   refine rD 8 ?_
   refine AWP.cond rfl (fun hb => ?_) (fun hb => ?_)
   ·simp only[hb,cond_true]at hz1
    refine rS ?_
    refine AWP.ret ?_
    subst hz1
    dsimp only at hR
    subst hR
    exact es
   ·simp only[hb,cond_false]at hz1
    refine rS ?_
    exact⟨_,[],hlt1,wt,hz1,sm⟩
  ·obtain rfl:i1=a0.length:=ot
   rw[yi (Nat.le_refl _)]at hz1;subst hz1;dsimp only at hR
   refine AWP.exit ?_;refine yb ?_
   refine rS ?_
   refine AWP.ret ?_
   subst hR
   exact es
end N113
def D_zze : DF
 | [x0,x1]=>some (.bool (zze (rdL yq x0) (rdL yq x1)),false,[wL 3 yk yq x0,wL 3 yk yq x1])
 | _=>none
theorem y65:OkD Tryz.prog 113 D_zze:=by unfold D_zze;exact dk N113.den
end Go.Ab

namespace Go.Ab
open Go Go.Proofs
def znf (a0:Aid) (a1:Aid):Bool:=
 (bif (a0.Number != a1.Number)then false else(bif (a0.Name != a1.Name)then false else(bif (!(zch a0.At a1.At))then false else(bif (a0.Height != a1.Height)then false else(bif (!(zdh a0.Mark a1.Mark))then false else(bif (!(zbh a0.Light a1.Light))then false else(bif (!(zze a0.Sectors a1.Sectors))then false else(bif (a0.Intensity != a1.Intensity)then false else true))))))))
namespace N33
theorem DD:DOk Tryz.prog (Go.Ab.DD [(110,dP D_zch),(111,dP D_zdh),(112,dP D_zbh),(113,dP D_zze)]):=ya yj6.e <| ya yc4.e <| ya yk4.e <| ya y65.e <| yc _
theorem dn:type_of% (And.intro @D_zch.eq_1 <| And.intro @D_zdh.eq_1 <| And.intro @D_zbh.eq_1 <| @D_zze.eq_1):=by and_intros<;>intros<;>rfl
theorem den (a0:Aid) (a1:Aid)  : Den Tryz.prog 33 [.agg (eAid a0),.agg (eAid a1)] (.bool (znf a0 a1)):=by
 generalize hR:znf a0 a1=r
 unfold znf at hR
 refine di Tryz.func33 Tryz.ntmps33 Tryz.results33 ?_
 intro c hL hc hk
 obtain⟨hL0,hL1,_⟩:=hL
 have hw0:bwAid a0:=yxb a0 hL0
 have hw1:bwAid a1:=yxb a1 hL1
 clear hL0 hL1
 simp only[pars,Nat.zero_add]
 iterate 2 refine rS ?_
 refine AWP.cond rfl (fun hb => ?_) (fun hb => ?_)
 ·replace hR:=ct hR
  refine rS ?_
  refine AWP.ret ?_
  subst hR
  exact es
 ·replace hR:=cf hR
  refine rS ?_
  refine AWP.cond rfl (fun hb => ?_) (fun hb => ?_)
  ·replace hR:=ct hR
   refine rS ?_
   refine AWP.ret ?_
   subst hR
   exact es
  ·replace hR:=cf hR
   refine rS ?_
   refine AWP.cond rfl (fun hb => ?_) (fun hb => ?_)
   ·replace hR:=ct hR
    refine rS ?_
    refine AWP.ret ?_
    subst hR
    exact es
   ·replace hR:=cf hR
    refine rS ?_
    refine AWP.cond rfl (fun hb => ?_) (fun hb => ?_)
    ·replace hR:=ct hR
     refine rS ?_
     refine AWP.ret ?_
     subst hR
     exact es
    ·replace hR:=cf hR
     refine rS ?_
     refine AWP.cond rfl (fun hb => ?_) (fun hb => ?_)
     ·replace hR:=ct hR
      refine rS ?_
      refine AWP.ret ?_
      subst hR
      exact es
     ·replace hR:=cf hR
      refine rS ?_
      refine AWP.cond rfl (fun hb => ?_) (fun hb => ?_)
      ·replace hR:=ct hR
       refine rS ?_
       refine AWP.ret ?_
       subst hR
       exact es
      ·replace hR:=cf hR
       refine rS ?_
       refine AWP.cond rfl (fun hb => ?_) (fun hb => ?_)
       ·replace hR:=ct hR
        refine rS ?_
        refine AWP.ret ?_
        subst hR
        exact es
       ·replace hR:=cf hR
        refine rS ?_
        refine AWP.cond rfl (fun hb => ?_) (fun hb => ?_)
        ·replace hR:=ct hR
         refine rS ?_
         refine AWP.ret ?_
         subst hR
         exact es
        ·replace hR:=cf hR
         refine rS ?_
         refine AWP.ret ?_
         subst hR
         exact es
end N33
def D_znf : DF
 | [x0,x1]=>some (.bool (znf (rdG dAid x0) (rdG dAid x1)),false,[wG eAid dAid x0,wG eAid dAid x1])
 | _=>none
theorem ywx:OkD Tryz.prog 33 D_znf:=by unfold D_znf;exact dk N33.den
end Go.Ab

namespace Go.Ab
open Go Go.Proofs
theorem yeab (a b:Point):zch a b=decide (a=b):=by
 unfold zch
 skip
 by_cases h:a=b
 ·subst h;simp
 ·rw[decide_eq_false h]
  cases a;cases b
  simp only[Point.mk.injEq]at h
  simp only[bne_iff_ne,Bool.cond_eq_ite,ite_eq_right_iff]
  (repeat' split)<;>simp_all
end Go.Ab

namespace Go.Ab
open Go Go.Proofs
theorem ywab (a b:Mark):zdh a b=decide (a=b):=by
 unfold zdh
 skip
 by_cases h:a=b
 ·subst h;simp
 ·rw[decide_eq_false h]
  cases a;cases b
  simp only[Mark.mk.injEq]at h
  simp only[bne_iff_ne,Bool.cond_eq_ite,ite_eq_right_iff]
  (repeat' split)<;>simp_all
end Go.Ab

namespace Go.Ab
open Go Go.Proofs
theorem yoab (a b:List Int):zye a b=decide (a=b):=by
 unfold zye
 by_cases hl:a.length=b.length
 ·have h1:((a.length:Int) != (b.length:Int))=false:=by simp[hl]
  rw[h1,cond_false,ymd (b:=y4n a b) (fun j => !decide (a.getD j default=b.getD j default)) false (fun j u _ _=>by simp only[y4n,ned])]
  simp only[Nat.sub_zero,Nat.zero_add]
  rw[ybs a b hl]
  by_cases h:a=b<;>simp[h]
 ·have h1:((a.length:Int) != (b.length:Int))=true:=by simp;omega
  have h2:¬ a=b:=fun e=>hl (by rw[e])
  rw[h1,cond_true,decide_eq_false h2]
end Go.Ab

namespace Go.Ab
open Go Go.Proofs
theorem y1ab (a b:Character):zbh a b=decide (a=b):=by
 unfold zbh
 simp only[yoab]
 by_cases h:a=b
 ·subst h;simp
 ·rw[decide_eq_false h]
  cases a;cases b
  simp only[Character.mk.injEq]at h
  simp only[bne_iff_ne,Bool.cond_eq_ite,ite_eq_right_iff]
  (repeat' split)<;>simp_all
end Go.Ab

namespace Go.Ab
open Go Go.Proofs
theorem y69 (a b:Sector):zeh a b=decide (a=b):=by
 unfold zeh
 skip
 by_cases h:a=b
 ·subst h;simp
 ·rw[decide_eq_false h]
  cases a;cases b
  simp only[Sector.mk.injEq]at h
  simp only[bne_iff_ne,Bool.cond_eq_ite,ite_eq_right_iff]
  (repeat' split)<;>simp_all
end Go.Ab

namespace Go.Ab
open Go Go.Proofs
theorem yjbb (a b:List Sector):zze a b=decide (a=b):=by
 unfold zze
 by_cases hl:a.length=b.length
 ·have h1:((a.length:Int) != (b.length:Int))=false:=by simp[hl]
  rw[h1,cond_false,ymd (b:=yjo a b) (fun j => !decide (a.getD j default=b.getD j default)) false (fun j u _ _=>by simp only[yjo,y69])]
  simp only[Nat.sub_zero,Nat.zero_add]
  rw[ybs a b hl]
  by_cases h:a=b<;>simp[h]
 ·have h1:((a.length:Int) != (b.length:Int))=true:=by simp;omega
  have h2:¬ a=b:=fun e=>hl (by rw[e])
  rw[h1,cond_true,decide_eq_false h2]
end Go.Ab

namespace Go.Ab
open Go Go.Proofs
theorem y72 (a b:Aid):znf a b=decide (a=b):=by
 unfold znf
 simp only[yeab,ywab,y1ab,yjbb]
 by_cases h:a=b
 ·subst h;simp
 ·rw[decide_eq_false h]
  cases a;cases b
  simp only[Aid.mk.injEq]at h
  simp only[bne_iff_ne,Bool.cond_eq_ite,ite_eq_right_iff]
  (repeat' split)<;>simp_all
end Go.Ab
