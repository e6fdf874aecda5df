/- A part of a proof: walks of functions and lemmas of our own. No conditions. -/
import Derived.Test.YtopoomikfjodkaaGreatDoorUAo
import Derived.Test.YtopoomikfjodkaaGreatDoorUBa
import Derived.Test.YtopoomikfjodkaaGreatDoorUAl
import Derived.Test.YtopoomikfjodkaaGreatDoorUAz
import Derived.Test.YtopoomikfjodkaaGreatDoorUAy
import Derived.Test.YtopoomikfjodkaaGreatDoorUAv
import Derived.Test.YtopoomikfjodkaaGreatDoorUAs
import Derived.Test.YtopoomikfjodkaaGreatDoorUAr
import Derived.Test.YtopoomikfjodkaaGreatDoorUAt
import Derived.Test.YtopoomikfjodkaaGreatDoorUAw
import Derived.Test.YtopoomikfjodkaaGreatDoorUAx
import Derived.Test.YtopoomikfjodkaaGreatDoorUAi
set_option linter.unusedSectionVars false
set_option linter.unusedVariables false
set_option linter.unusedSimpArgs false
set_option maxHeartbeats 1000000
namespace Go.Ab
open Go Go.Proofs
theorem wr1 {k:Int} (h0:0≤k) (h1:k<4611686018427387904):IntKind.wrap .i64 (k+1)=k+1:=by rw[IntKind.wrap_i64];omega
def ypb (x:Sector) (k:Int):Int×Sector:=
 (IntKind.wrap .i64 ((IntKind.wrap .i64 ((IntKind.wrap .i64 (k+1))+1))+1),{ From:=k,To:=IntKind.wrap .i64 (k+1),Color:=(zfd (IntKind.wrap .i64 ((IntKind.wrap .i64 (k+1))+1))):Sector })
theorem yyh (x:Sector) (k:Int) (h0:0≤k) (h1:k≤2305843009213693952):(ypb x k).1=k+3:=by
 unfold ypb
 simp(disch:=omega) only[wr1]
 omega
theorem y8f (a:List Sector) (k:Int):zgb a k=yxd ypb a k:=by
 unfold zgb
 have:=ysk ypb (y0i a k) (fun i s=>rfl) a [] k
 simp only[List.length_nil,List.nil_append,Nat.sub_zero]at this ⊢
 rw[this]
theorem yls : ∀ (a : List Sector) (k : Int), 0 ≤ k → k + 3 * a.length ≤ 2305843009213693952 → (yxd ypb a k).1 = k + 3 * a.length
 | [],k,_,_=>by simp[yxd]
 | x::a,k,h0,h1=>by
  simp only[List.length_cons]at h1 ⊢
  simp only[yxd]
  have hk:=yyh x k h0 (by omega)
  rw[yls a _ (by omega) (by omega),hk]
  omega
theorem ybm (a:List Sector) (k:Int) (h0:0≤k) (h1:k≤1152921504606846976) (hl:a.length≤1099511627776):(zgb a k).1=k+3 * a.length:=by
 rw[y8f,yls a k h0 (by omega)]
theorem y9h (a:List Sector) (k:Int) (h0:0≤k) (h1:k≤1152921504606846976) (hl:a.length≤1099511627776):zad (zgb a k).2 k=(zgb a k).1∧¬ (zgb a k).1<0:=by
 refine⟨?_,by rw[ybm a k h0 h1 hl];omega⟩
 rw[y8f]
 unfold zad
 rw[ykp,Nat.sub_zero]
 rw[ybl ypb (y9k (yxd ypb a k).2 k) (fun _=>True) 3 2305843009213693952 (by omega) (fun x k _ g0 g1=>by rw[yyh x k g0 g1];omega) a 0 k (fun _ _=>trivial) h0 (by omega) (fun j x s _ g0 g1 g2=>by
  have e:(yxd ypb a k).2.getD (0+j) default=(ypb x s).2:=by rw[Nat.zero_add,List.getD_eq_getElem?_getD,g2];rfl
  simp only[y9k,e]
  simp only[ypb,bne_self_eq_false,cond_false])]
end Go.Ab

namespace Go.Ab
open Go Go.Proofs
theorem yie (a:Character) (k:Int) (h:k≤9223372036854775807):(zv a k).1≤9223372036854775807:=by
 unfold zv
 exact ywl _ _ h
end Go.Ab

namespace Go.Ab
open Go Go.Proofs
def zeb (a0:Aid) (a1:Int):Int×Aid:=
 (((zgb a0.Sectors ((zv a0.Light a1).1)).1),{ a0 with Light:={ a0.Light with Group:=((zv a0.Light a1).2).Group },Sectors:=(zgb a0.Sectors ((zv a0.Light a1).1)).2 })
namespace N55
theorem DD:DOk Tryz.prog (Go.Ab.DD [(122,dM [true,false] D_zgb),(139,dM [true,false] D_zv)]):=ya yzz.e <| ya yh2.e <| ye _
theorem dn:type_of% (And.intro @D_zgb.eq_1 <| And.intro @D_zv.eq_1 <| And.intro @yac <| @yyr):=And.intro @D_zgb.eq_1 <| And.intro @D_zv.eq_1 <| And.intro @yac <| @yyr
theorem ol:type_of% (And.intro @ygb <| @y6h):=And.intro @ygb <| @y6h
theorem gr {p:Prop} (h:p:=by(grind [yld,y6h]);first|done|fail):p:=h
theorem o1 {p:Prop} (h:p:=by(first|(exact mrg)|(exact yie _ _ hp0));first|done|fail):p:=h
theorem den (a0:Aid) (a1:Int) (hp0:a1≤9223372036854775807):DenM Tryz.prog 55 [.agg (yci a0),.int .i64 a1] (.int .i64 ((zeb a0 a1).1)) [(.agg [.any,.any,.any,.any,.any,.any,.any,.any,.any,.any,(ownL 2 1 yq ((((zeb a0 a1).2).Light).Group)),.any,.any,.any,(ownL 188 3 yj (((zeb a0 a1).2).Sectors)),.any]),.any]:=by
 generalize hR:zeb a0 a1=r
 unfold zeb at hR
 refine dj (gb:=[true,false]) Tryz.func55 Tryz.ntmps55 Tryz.results55 ?_
 intro c hL hc hk
 obtain⟨hL0,hL1,_⟩:=hL
 have hw0:bwAid a0:=ycx a0 hL0
 clear hL0 hL1
 simp only[adEL,adE,adRL,adR,ownL,encL,sv,List.nil_append,List.append_nil,List.cons_append,List.length_cons,List.length_nil,pars,Nat.zero_add,Nat.reduceAdd]at hk ⊢
 iterate 4 refine rS ?_
 refine AWP.ret ?_
 subst hR
 exact es
end N55
def D_zeb : List AV → Option (AV × List AV × List Prop)
 | [x0,x1]=>some (.int .i64 ((zeb (rdG dAid x0) (rdI x1)).1),[(.agg [.any,.any,.any,.any,.any,.any,.any,.any,.any,.any,(ownL 2 1 yq ((((zeb (rdG dAid x0) (rdI x1)).2).Light).Group)),.any,.any,.any,(ownL 188 3 yj (((zeb (rdG dAid x0) (rdI x1)).2).Sectors)),.any]),.any],[wGO yci dAid x0,wI .i64 x1,(rdI x1)≤9223372036854775807])
 | _=>none
theorem yv0:OkM Tryz.prog 55 D_zeb:=by unfold D_zeb;exact dm N55.den
end Go.Ab

namespace Go.Ab
open Go Go.Proofs
theorem yai (a:Character) (k:Int) (h:k≤9223372036854775807):znd a k≤9223372036854775807:=by
 unfold znd
 have h1:=ycm a.Group k h
 rw[Bool.cond_eq_ite]
 split
 ·omega
 ·exact h1
end Go.Ab

namespace Go.Ab
open Go Go.Proofs
def zpe (a0:Aid) (a1:Int):Int:=
 (bif decide ((znd a0.Light a1)<0)then(-1)else(bif decide ((zad a0.Sectors (znd a0.Light a1))<0)then(-1)else(zad a0.Sectors (znd a0.Light a1))))
namespace N56
theorem DD:DOk Tryz.prog (Go.Ab.DD [(140,dP D_znd),(141,dP D_zad)]):=ya yz0.e <| ya yb0.e <| ye _
theorem dn:type_of% (And.intro @D_znd.eq_1 <| And.intro @D_zad.eq_1 <| And.intro @yyr <| @yac):=And.intro @D_znd.eq_1 <| And.intro @D_zad.eq_1 <| And.intro @yyr <| @yac
theorem ol:type_of% (And.intro @y6h <| @ygb):=And.intro @y6h <| @ygb
theorem gr {p:Prop} (h:p:=by(grind [y6h,yld]);first|done|fail):p:=h
theorem o1 {p:Prop} (h:p:=by(first|(exact mrg)|(exact yai _ _ hp0));first|done|fail):p:=h
theorem den (a0:Aid) (a1:Int) (hp0:a1≤9223372036854775807):Den Tryz.prog 56 [.agg (eAid a0),.int .i64 a1] (.int .i64 (zpe a0 a1)):=by
 generalize hR:zpe a0 a1=r
 unfold zpe at hR
 refine di Tryz.func56 Tryz.ntmps56 Tryz.results56 ?_
 intro c hL hc hk
 obtain⟨hL0,hL1,_⟩:=hL
 have hw0:bwAid a0:=y7c a0 hL0
 clear hL0 hL1
 simp only[pars,Nat.zero_add]
 iterate 3 refine rS ?_
 refine AWP.cond rfl (fun hb => ?_) (fun hb => ?_)
 ·replace hR:=ct hR
  refine rS ?_
  refine AWP.ret ?_
  subst hR
  exact es
 ·replace hR:=cf hR
  iterate 2 refine rS ?_
  refine AWP.cond rfl (fun hb => ?_) (fun hb => ?_)
  ·replace hR:=ct hR
   refine rS ?_
   refine AWP.ret ?_
   subst hR
   exact es
  ·replace hR:=cf hR
   refine rS ?_
   refine AWP.ret ?_
   subst hR
   exact es
end N56
def D_zpe : DF
 | [x0,x1]=>some (.int .i64 (zpe (rdG dAid x0) (rdI x1)),false,[wG eAid dAid x0,wI .i64 x1,(rdI x1)≤9223372036854775807])
 | _=>none
theorem y0z:OkD Tryz.prog 56 D_zpe:=by unfold D_zpe;exact dk N56.den
end Go.Ab

namespace Go.Ab
open Go Go.Proofs
theorem ycp (a:Aid) (k:Int) (h0:0≤k) (h1:k≤1000000) (hg:a.Light.Group.length≤1048576) (hs:a.Sectors.length≤1048576):zpe (zeb a k).2 k=(zeb a k).1∧¬ (zeb a k).1<0:=by
 have hc:=y3z a.Light k h0 (by omega) (by omega)
 have hk:=zv_k a.Light k h0 (by omega) (by omega)
 have hm:=y9h a.Sectors (zv a.Light k).1 (by omega) (by omega) (by omega)
 unfold zpe zeb
 dsimp only
 have e:({ a.Light with Group:=(zv a.Light k).2.Group }:Character)=(zv a.Light k).2:=rfl
 rw[e,hc.1,decide_eq_false hc.2,hm.1,decide_eq_false hm.2]
 exact⟨rfl,hm.2⟩
end Go.Ab

namespace Go.Ab
open Go Go.Proofs
theorem y43 (w:List UInt8) (hw:w.length≤1048576):bdMark (zgc w).1:=by
 cases e:(zgc w).2 with
 | true=>
  have h:=y1f (m:=(zgc w).1) (yy2.r2 w hw e).1
  exact⟨Nat.lt_of_le_of_lt h.2.2.1 (by decide),Nat.lt_of_le_of_lt h.2.2.2.1 (by decide),Nat.lt_of_le_of_lt h.2.2.2.2 (by decide)⟩
 | false=>rw[yy2.r3 w hw e];decide
theorem y34 {l:List Sector} (h:zq l=true):l.length<1099511627776∧∀ v∈l,bdSector v:=by
 have hr:=yyf h
 refine⟨Nat.lt_of_le_of_lt hr.1 (by decide),fun v hv => ?_⟩
 obtain⟨i,hi,e⟩:=List.getElem_of_mem hv
 have h9:=(hr.2 i).2.2.2.2
 rw[List.getD_eq_getElem?_getD,List.getElem?_eq_getElem hi,Option.getD_some,e]at h9
 exact Nat.lt_of_le_of_lt h9 (by decide)
theorem y74 (w:List UInt8) (hw:w.length≤1048576):(zfb w).1.length<1099511627776∧∀ v∈(zfb w).1,bdSector v:=by
 cases e:(zfb w).2 with
 | true=>exact y34 (yk2.r2 w hw e).1
 | false=>rw[yk2.r3 w hw e];exact⟨by decide,by simp⟩
theorem yu3 {c:Character} (h:zw c=true):bdCharacter c:=by
 have hf:=yxb c h
 have hg:=(ync c h).1
 have hc:=ypk h
 have hl:c.Letter.length≤1:=by
  by_cases h8:c.Kind=8
  ·rw[(y1k c hf h8).2.1];exact Nat.le_refl _
  ·by_cases hL:c.Letter=[]
   ·rw[hL];simp
   ·rw[(yow c hf h8 hL).1];simp
 exact⟨Nat.lt_of_le_of_lt hg (by decide),Nat.lt_of_le_of_lt hl (by decide),Nat.lt_of_le_of_lt hc (by decide)⟩
theorem yw4 (w:List UInt8):bdCharacter (zlc w).1:=by
 rcases ypg w with h|⟨c,h1,_,h3⟩
 ·rw[h];decide
 ·rw[h3];exact yu3 h1
end Go.Ab

namespace Go.Ab
open Go Go.Proofs
def zy (a0:(List UInt8)):(Aid×Bool):=
 (bif (((zd a0 [47]).length:Int) != 8)then({ Number:=0,Name:=[],At:={ X:=0,Y:=0:Point },Height:=0,Mark:={ Kind:=0,Colors:=[],Shape:=[],Topmark:=[]:Mark },Light:={ Kind:=0,Group:=[],Letter:=[],Colors:=[],Period:=0:Character },Sectors:=[],Intensity:=0:Aid },false)else(bif (((zd a0 [47]).getD 5 default) == [45])then(bif ((!(((zk ((zd a0 [47]).getD 0 default)).2) == true && (((zjd ((zd a0 [47]).getD 2 default)).2) == true && (((zk ((zd a0 [47]).getD 3 default)).2) == true && (((zgc ((zd a0 [47]).getD 4 default)).2) == true && (true == true && (((zfb ((zd a0 [47]).getD 6 default)).2) == true && ((zk ((zd a0 [47]).getD 7 default)).2) == true))))))) || ((zce ({ Number:=(zk ((zd a0 [47]).getD 0 default)).1,Name:=((zd a0 [47]).getD 1 default),At:=(zjd ((zd a0 [47]).getD 2 default)).1,Height:=(zk ((zd a0 [47]).getD 3 default)).1,Mark:=(zgc ((zd a0 [47]).getD 4 default)).1,Light:=(zlc ((zd a0 [47]).getD 5 default)).1,Sectors:=(zfb ((zd a0 [47]).getD 6 default)).1,Intensity:=(zk ((zd a0 [47]).getD 7 default)).1:Aid })) != a0))then({ Number:=0,Name:=[],At:={ X:=0,Y:=0:Point },Height:=0,Mark:={ Kind:=0,Colors:=[],Shape:=[],Topmark:=[]:Mark },Light:={ Kind:=0,Group:=[],Letter:=[],Colors:=[],Period:=0:Character },Sectors:=[],Intensity:=0:Aid },false)else({ Number:=(zk ((zd a0 [47]).getD 0 default)).1,Name:=((zd a0 [47]).getD 1 default),At:=(zjd ((zd a0 [47]).getD 2 default)).1,Height:=(zk ((zd a0 [47]).getD 3 default)).1,Mark:=(zgc ((zd a0 [47]).getD 4 default)).1,Light:=(zlc ((zd a0 [47]).getD 5 default)).1,Sectors:=(zfb ((zd a0 [47]).getD 6 default)).1,Intensity:=(zk ((zd a0 [47]).getD 7 default)).1:Aid },true))else(bif ((!(((zk ((zd a0 [47]).getD 0 default)).2) == true && (((zjd ((zd a0 [47]).getD 2 default)).2) == true && (((zk ((zd a0 [47]).getD 3 default)).2) == true && (((zgc ((zd a0 [47]).getD 4 default)).2) == true && (((zlc ((zd a0 [47]).getD 5 default)).2) == true && (((zfb ((zd a0 [47]).getD 6 default)).2) == true && ((zk ((zd a0 [47]).getD 7 default)).2) == true))))))) || ((zce ({ Number:=(zk ((zd a0 [47]).getD 0 default)).1,Name:=((zd a0 [47]).getD 1 default),At:=(zjd ((zd a0 [47]).getD 2 default)).1,Height:=(zk ((zd a0 [47]).getD 3 default)).1,Mark:=(zgc ((zd a0 [47]).getD 4 default)).1,Light:=(zlc ((zd a0 [47]).getD 5 default)).1,Sectors:=(zfb ((zd a0 [47]).getD 6 default)).1,Intensity:=(zk ((zd a0 [47]).getD 7 default)).1:Aid })) != a0))then({ Number:=0,Name:=[],At:={ X:=0,Y:=0:Point },Height:=0,Mark:={ Kind:=0,Colors:=[],Shape:=[],Topmark:=[]:Mark },Light:={ Kind:=0,Group:=[],Letter:=[],Colors:=[],Period:=0:Character },Sectors:=[],Intensity:=0:Aid },false)else({ Number:=(zk ((zd a0 [47]).getD 0 default)).1,Name:=((zd a0 [47]).getD 1 default),At:=(zjd ((zd a0 [47]).getD 2 default)).1,Height:=(zk ((zd a0 [47]).getD 3 default)).1,Mark:=(zgc ((zd a0 [47]).getD 4 default)).1,Light:=(zlc ((zd a0 [47]).getD 5 default)).1,Sectors:=(zfb ((zd a0 [47]).getD 6 default)).1,Intensity:=(zk ((zd a0 [47]).getD 7 default)).1:Aid },true))))
namespace N54
theorem DD:DOk Tryz.prog (Go.Ab.DD [(135,dP D_zd),(136,dP D_zk),(137,dP D_zjd),(138,dP D_zfb),(15,dP D_zgc),(32,dP D_zce),(89,dP D_zlc)]):=ya yrl.e <| ya ymj.e <| ya yy0.e <| ya y60.e <| ya yl0.e <| ya yby.e <| ya yxz.e <| ye _
theorem dn:type_of% (And.intro @D_zd.eq_1 <| And.intro @D_zk.eq_1 <| And.intro @D_zjd.eq_1 <| And.intro @D_zfb.eq_1 <| And.intro @D_zgc.eq_1 <| And.intro @D_zce.eq_1 <| @D_zlc.eq_1):=by and_intros<;>intros<;>rfl
set_option maxHeartbeats 4000000 in
set_option maxRecDepth 20000 in
theorem den (a0:(List UInt8)) (hb0:a0.length<1099511627776) (hp0:a0.length≤1048576):Den Tryz.prog 54 [.str a0] (.tup [.agg (yci ((zy a0).1)),.bool ((zy a0).2)]):=by
 generalize hR:zy a0=r
 unfold zy at hR
 refine di Tryz.func54 Tryz.ntmps54 Tryz.results54 ?_
 intro c hL hc hk
 obtain⟨hL0,_⟩:=hL
 have hw0:a0.length<9223372036854775808:=Nat.lt_succ_of_le hL0
 clear hL0
 simp only[pars,Nat.zero_add]
 have e1:=fun i=>y2s a0 47 i
 have s0_:=e1 0
 have s1_:=e1 1
 have s2_:=e1 2
 have s3_:=e1 3
 have s4_:=e1 4
 have s5_:=e1 5
 have s6_:=e1 6
 have s7_:=e1 7
 have b4:=y43 ((zd a0 [47]).getD 4 default) (by omega)
 have b5:=yw4 ((zd a0 [47]).getD 5 default)
 have b6:=y74 ((zd a0 [47]).getD 6 default) (by omega)
 have b61:=b6.1
 have b62:=b6.2
 iterate 3 refine rS ?_
 refine AWP.cond rfl (fun hb => ?_) (fun hb => ?_)
 ·replace hR:=ct hR
  refine rS ?_
  refine AWP.ret ?_
  subst hR
  exact es
 ·replace hR:=cf hR
  iterate 10 refine rS ?_
  refine AWP.cond rfl (fun hb => ?_) (fun hb => ?_)
  ·replace hR:=ct hR
   iterate 2 refine rS ?_
   refine AWP.cond rfl (fun hb => ?_) (fun hb => ?_)
   ·replace hR:=ct hR
    refine rS ?_
    refine AWP.ret ?_
    subst hR
    exact es
   ·replace hR:=cf hR
    refine rS ?_
    refine AWP.ret ?_
    subst hR
    exact es
  ·replace hR:=cf hR
   refine rS ?_
   refine AWP.cond rfl (fun hb => ?_) (fun hb => ?_)
   ·replace hR:=ct hR
    refine rS ?_
    refine AWP.ret ?_
    subst hR
    exact es
   ·replace hR:=cf hR
    refine rS ?_
    refine AWP.ret ?_
    subst hR
    exact es
end N54
def D_zy : DF
 | [x0]=>some (.tup [.agg (yci ((zy (rdS x0)).1)),.bool ((zy (rdS x0)).2)],false,[wS x0,(rdS x0).length<1099511627776,(rdS x0).length≤1048576])
 | _=>none
theorem y62:OkD Tryz.prog 54 D_zy:=by unfold D_zy;exact dk N54.den
end Go.Ab

namespace Go.Ab
open Go Go.Proofs
theorem yr4 (w:List UInt8) (hw:w.length≤1048576):bdMark (zzb w).1:=by rw[← yjn w hw];exact y43 w hw
theorem yk4 (w:List UInt8) (hw:w.length≤1048576):(zab w).1.length<1099511627776∧∀ v∈(zab w).1,bdSector v:=by rw[← ypp w hw];exact y74 w hw
theorem yv4 (w:List UInt8) (hw:w.length≤1048576):bdCharacter (zqc w).1:=by rw[← yfr w hw];exact yw4 w
end Go.Ab

namespace Go.Ab
open Go Go.Proofs
def zgd (a0:(List UInt8)):(Aid×Bool):=
 (bif (((za a0 47).length:Int) != 8)then({ Number:=0,Name:=[],At:={ X:=0,Y:=0:Point },Height:=0,Mark:={ Kind:=0,Colors:=[],Shape:=[],Topmark:=[]:Mark },Light:={ Kind:=0,Group:=[],Letter:=[],Colors:=[],Period:=0:Character },Sectors:=[],Intensity:=0:Aid },false)else(bif ((((((!((zg ((za a0 47).getD 0 default)).2)) || (!((zpb ((za a0 47).getD 2 default)).2))) || (!((zg ((za a0 47).getD 3 default)).2))) || (!((zzb ((za a0 47).getD 4 default)).2))) || (!((zab ((za a0 47).getD 6 default)).2))) || (!((zg ((za a0 47).getD 7 default)).2)))then({ Number:=0,Name:=[],At:={ X:=0,Y:=0:Point },Height:=0,Mark:={ Kind:=0,Colors:=[],Shape:=[],Topmark:=[]:Mark },Light:={ Kind:=0,Group:=[],Letter:=[],Colors:=[],Period:=0:Character },Sectors:=[],Intensity:=0:Aid },false)else(bif (((za a0 47).getD 5 default) != [45])then(bif (!((zqc ((za a0 47).getD 5 default)).2))then({ Number:=0,Name:=[],At:={ X:=0,Y:=0:Point },Height:=0,Mark:={ Kind:=0,Colors:=[],Shape:=[],Topmark:=[]:Mark },Light:={ Kind:=0,Group:=[],Letter:=[],Colors:=[],Period:=0:Character },Sectors:=[],Intensity:=0:Aid },false)else(bif (!(zxb ({ Number:=(zg ((za a0 47).getD 0 default)).1,Name:=((za a0 47).getD 1 default),At:=(zpb ((za a0 47).getD 2 default)).1,Height:=(zg ((za a0 47).getD 3 default)).1,Mark:=(zzb ((za a0 47).getD 4 default)).1,Light:=(zqc ((za a0 47).getD 5 default)).1,Sectors:=(zab ((za a0 47).getD 6 default)).1,Intensity:=(zg ((za a0 47).getD 7 default)).1:Aid })))then({ Number:=0,Name:=[],At:={ X:=0,Y:=0:Point },Height:=0,Mark:={ Kind:=0,Colors:=[],Shape:=[],Topmark:=[]:Mark },Light:={ Kind:=0,Group:=[],Letter:=[],Colors:=[],Period:=0:Character },Sectors:=[],Intensity:=0:Aid },false)else({ Number:=(zg ((za a0 47).getD 0 default)).1,Name:=((za a0 47).getD 1 default),At:=(zpb ((za a0 47).getD 2 default)).1,Height:=(zg ((za a0 47).getD 3 default)).1,Mark:=(zzb ((za a0 47).getD 4 default)).1,Light:=(zqc ((za a0 47).getD 5 default)).1,Sectors:=(zab ((za a0 47).getD 6 default)).1,Intensity:=(zg ((za a0 47).getD 7 default)).1:Aid },true)))else(bif (!(zxb ({ Number:=(zg ((za a0 47).getD 0 default)).1,Name:=((za a0 47).getD 1 default),At:=(zpb ((za a0 47).getD 2 default)).1,Height:=(zg ((za a0 47).getD 3 default)).1,Mark:=(zzb ((za a0 47).getD 4 default)).1,Light:={ Kind:=0,Group:=[],Letter:=[],Colors:=[],Period:=0:Character },Sectors:=(zab ((za a0 47).getD 6 default)).1,Intensity:=(zg ((za a0 47).getD 7 default)).1:Aid })))then({ Number:=0,Name:=[],At:={ X:=0,Y:=0:Point },Height:=0,Mark:={ Kind:=0,Colors:=[],Shape:=[],Topmark:=[]:Mark },Light:={ Kind:=0,Group:=[],Letter:=[],Colors:=[],Period:=0:Character },Sectors:=[],Intensity:=0:Aid },false)else({ Number:=(zg ((za a0 47).getD 0 default)).1,Name:=((za a0 47).getD 1 default),At:=(zpb ((za a0 47).getD 2 default)).1,Height:=(zg ((za a0 47).getD 3 default)).1,Mark:=(zzb ((za a0 47).getD 4 default)).1,Light:={ Kind:=0,Group:=[],Letter:=[],Colors:=[],Period:=0:Character },Sectors:=(zab ((za a0 47).getD 6 default)).1,Intensity:=(zg ((za a0 47).getD 7 default)).1:Aid },true)))))
namespace N134
theorem DD:DOk Tryz.prog (Go.Ab.DD [(165,dP D_za),(168,dP D_zg),(230,dP D_zpb),(231,dP D_zzb),(232,dP D_zab),(233,dP D_zqc),(98,dP D_zxb)]):=ya y9g.e <| ya y1l.e <| ya ywx.e <| ya yiy.e <| ya yxy.e <| ya y3x.e <| ya ypz.e <| ye _
theorem dn:type_of% (And.intro @D_za.eq_1 <| And.intro @D_zg.eq_1 <| And.intro @D_zpb.eq_1 <| And.intro @D_zzb.eq_1 <| And.intro @D_zab.eq_1 <| And.intro @D_zqc.eq_1 <| @D_zxb.eq_1):=by and_intros<;>intros<;>rfl
theorem gr {p:Prop} (h:p:=by(grind [yw,y6b]);first|done|fail):p:=h
set_option maxHeartbeats 4000000 in
set_option maxRecDepth 20000 in
theorem den (a0:(List UInt8)) (hb0:a0.length<1099511627776) (hp0:a0.length≤1048576):Den Tryz.prog 134 [.str a0] (.tup [.agg (yci ((zgd a0).1)),.bool ((zgd a0).2)]):=by
 generalize hR:zgd a0=r
 unfold zgd at hR
 refine di Tryz.func134 Tryz.ntmps134 Tryz.results134 ?_
 intro c hL hc hk
 obtain⟨hL0,_⟩:=hL
 have hw0:a0.length<9223372036854775808:=Nat.lt_succ_of_le hL0
 clear hL0
 simp only[pars,Nat.zero_add]
 have e1:=fun i=>yge a0 47 47 rfl (by omega) i
 have s0_:=e1 0
 have s1_:=e1 1
 have s2_:=e1 2
 have s3_:=e1 3
 have s4_:=e1 4
 have s5_:=e1 5
 have s6_:=e1 6
 have s7_:=e1 7
 have b4:=yr4 ((za a0 47).getD 4 default) (by omega)
 have b5:=yv4 ((za a0 47).getD 5 default) (by omega)
 have b6:=yk4 ((za a0 47).getD 6 default) (by omega)
 have b61:=b6.1
 have b62:=b6.2
 iterate 3 refine rS ?_
 refine AWP.cond rfl (fun hb => ?_) (fun hb => ?_)
 ·replace hR:=ct hR
  refine rS ?_
  refine AWP.ret ?_
  subst hR
  exact es
 ·replace hR:=cf hR
  iterate 8 refine rS ?_
  refine AWP.cond rfl (fun hb => ?_) (fun hb => ?_)
  ·replace hR:=ct hR
   refine rS ?_
   refine AWP.ret ?_
   subst hR
   exact es
  ·replace hR:=cf hR
   iterate 7 refine rS ?_
   refine AWP.cond rfl (fun hb => ?_) (fun hb => ?_)
   ·replace hR:=ct hR
    iterate 2 refine rS ?_
    refine AWP.cond rfl (fun hb => ?_) (fun hb => ?_)
    ·replace hR:=ct hR
     refine rS ?_
     refine AWP.ret ?_
     subst hR
     exact es
    ·replace hR:=cf hR
     iterate 2 refine rS ?_
     refine AWP.cond rfl (fun hb => ?_) (fun hb => ?_)
     ·replace hR:=ct hR
      refine rS ?_
      refine AWP.ret ?_
      subst hR
      exact es
     ·replace hR:=cf hR
      refine rS ?_
      refine AWP.ret ?_
      subst hR
      exact es
   ·replace hR:=cf hR
    refine rS ?_
    refine AWP.cond rfl (fun hb => ?_) (fun hb => ?_)
    ·replace hR:=ct hR
     refine rS ?_
     refine AWP.ret ?_
     subst hR
     exact es
    ·replace hR:=cf hR
     refine rS ?_
     refine AWP.ret ?_
     subst hR
     exact es
end N134
def D_zgd : DF
 | [x0]=>some (.tup [.agg (yci ((zgd (rdS x0)).1)),.bool ((zgd (rdS x0)).2)],false,[wS x0,(rdS x0).length<1099511627776,(rdS x0).length≤1048576])
 | _=>none
theorem yhz:OkD Tryz.prog 134 D_zgd:=by unfold D_zgd;exact dk N134.den
end Go.Ab

namespace Go.Ab
open Go Go.Proofs
abbrev zAid:Aid:={ Number:=0,Name:=[],At:={ X:=0,Y:=0:Point },Height:=0,Mark:={ Kind:=0,Colors:=[],Shape:=[],Topmark:=[]:Mark },Light:={ Kind:=0,Group:=[],Letter:=[],Colors:=[],Period:=0:Character },Sectors:=[],Intensity:=0 }
abbrev zChr:Character:={ Kind:=0,Group:=[],Letter:=[],Colors:=[],Period:=0 }
theorem yaz:zlc [45]=(zChr,false):=by decide +kernel
theorem yi5 {α:Type} (l:List α) (h:l.length=8):∃ a b c d e f g k,l=[a,b,c,d,e,f,g,k]:=by
 match l,h with
 | [a,b,c,d,e,f,g,k],_=>exact⟨a,b,c,d,e,f,g,k,rfl⟩
theorem ylz {s w0 w1 w2 w3 w4 w5 w6 w7 : List UInt8} (hs : s.length ≤ 1048576) (hw : yl 47 s = [w0, w1, w2, w3, w4, w5, w6, w7]) (c : Character) (f0 : (zg w0).2 = true) (f2 : (zpb w2).2 = true) (f3 : (zg w3).2 = true)
  (f4:(zzb w4).2=true) (f6:(zab w6).2=true) (f7:(zg w7).2=true) (hc:(w5=[45]∧c=zChr)∨(zlb c=true∧zcb c=w5∧c.Colors.length<9223372036854775808)) :
  (zce ({ Number:=(zg w0).1,Name:=w1,At:=(zpb w2).1,Height:=(zg w3).1,Mark:=(zzb w4).1,Light:=c,Sectors:=(zab w6).1,Intensity:=(zg w7).1:Aid }) != s) = !(zxb ({ Number:=(zg w0).1,Name:=w1,At:=(zpb w2).1,Height:=(zg w3).1,Mark:=(zzb w4).1,Light:=c,Sectors:=(zab w6).1,Intensity:=(zg w7).1:Aid })):=by
 have hj:=yyd 47 s
 have hl:=(y3 47 s).2
 rw[hw]at hj hl
 have hx:∀ x∈[w0,w1,w2,w3,w4,w5,w6,w7],x.length≤1048576:=fun x h=>by have:=hl x h;omega
 have q2:=ygq w2 (hx w2 (by simp)) f2
 have q4:=yv3.r2 w4 (hx w4 (by simp)) f4
 have q6:=yu4.r2 w6 (hx w6 (by simp)) f6
 have hcol:c.Colors.length<9223372036854775808:=by
  rcases hc with⟨_,e⟩|⟨_,_,e⟩
  ·rw[e];decide
  ·exact e
 generalize ha:({ Number:=(zg w0).1,Name:=w1,At:=(zpb w2).1,Height:=(zg w3).1,Mark:=(zzb w4).1,Light:=c,Sectors:=(zab w6).1,Intensity:=(zg w7).1:Aid })=a
 have e1:a.Number=(zg w0).1:=by rw[← ha]
 have e2:a.Name=w1:=by rw[← ha]
 have e3:a.At=(zpb w2).1:=by rw[← ha]
 have e4:a.Height=(zg w3).1:=by rw[← ha]
 have e5:a.Mark=(zzb w4).1:=by rw[← ha]
 have e6:a.Light=c:=by rw[← ha]
 have e7:a.Sectors=(zab w6).1:=by rw[← ha]
 have e8:a.Intensity=(zg w7).1:=by rw[← ha]
 have hsl:a.Sectors.length<9223372036854775807:=by rw[e7];have:=(yee q6.1).1;omega
 have hcl:a.Light.Colors.length<9223372036854775808:=by rw[e6];exact hcol
 cases h:zxb a with
 | false=>
  have:zce a=[]:=by unfold zce;rw[yof a hcl hsl,h];rfl
  rw[this,Bool.not_false,bne_iff_ne]
  intro e
  rw[← e]at hw
  cases hw
 | true=>
  rw[(yqz h hcl).1,Bool.not_true,bne_eq_false_iff_eq]
  obtain⟨n1,n2,_,_,h1,h2,_,_,_,i1,i2⟩:=yve h
  have t1:zi a.Number=w0:=by rw[ygf _ (by omega) (by omega),e1];exact(y5d (hx w0 (by simp)) f0).1.symm
  have t4:zi a.Height=w3:=by rw[ygf _ (by omega) (by omega),e4];exact(y5d (hx w3 (by simp)) f3).1.symm
  have t8:zi a.Intensity=w7:=by rw[ygf _ (by omega) (by omega),e8];exact(y5d (hx w7 (by simp)) f7).1.symm
  have t3:zrf a.At=w2:=by rw[e3];exact q2.2.symm
  have t5:zqf a.Mark=w4:=by
   rw[e5]
   have hm:zz (zzb w4).1=true:=q4.1
   unfold zqf
   rw[hm]
   exact q4.2.symm
  have t7:zye a.Sectors=w6:=by rw[e7];exact q6.2.symm
  have t6:(zmf a=true∧zcb a.Light=w5)∨(zmf a=false∧[45]=w5):=by
   unfold zmf
   rw[e6]
   rcases hc with⟨g1,g2⟩|⟨g1,g2,g3⟩
   ·right;rw[g2];exact⟨rfl,g1.symm⟩
   ·left
    have:=(yvw c g3 g1).2.2.1
    exact⟨by rw[bne_iff_ne];omega,g2⟩
  rw[← hj]
  unfold zwf
  rcases t6 with⟨g1,g2⟩|⟨g1,g2⟩
  ·rw[g1,cond_true,t1,e2,t3,t4,t5,g2,t7,t8]
   simp[ybi]
  ·rw[g1,cond_false,t1,e2,t3,t4,t5,g2,t7,t8]
   simp[ybi]
theorem yjl (s:List UInt8) (hs:s.length≤1048576):zy s=zgd s:=by
 unfold zy zgd
 rw[yav,y7i s 47 47 rfl hs]
 cases hl:(((yl 47 s).length:Int) != 8)with
 | true=>rfl
 | false=>
  have hl:(yl 47 s).length=8:=by have h:=hl;simp at h;omega
  obtain⟨w0,w1,w2,w3,w4,w5,w6,w7,hw⟩:=yi5 _ hl
  have hx:=(y3 47 s).2
  rw[hw]at hx ⊢
  have hx:∀ x∈[w0,w1,w2,w3,w4,w5,w6,w7],x.length≤1048576:=fun x h=>by have:=hx x h;omega
  simp only[cond_false,List.getD_cons_zero,List.getD_cons_succ]
  rw[yoh w0 (hx w0 (by simp)),yoh w3 (hx w3 (by simp)),yoh w7 (hx w7 (by simp)),ycw w2 (hx w2 (by simp)),yjn w4 (hx w4 (by simp)),ypp w6 (hx w6 (by simp)),yfr w5 (hx w5 (by simp))]
  have core:=fun c f0 f2 f3 f4 f6 f7 hc=>ylz hs hw c f0 f2 f3 f4 f6 f7 hc
  cases f0:(zg w0).2 with
  | false=>simp
  | true=>
  cases f2:(zpb w2).2 with
  | false=>simp
  | true=>
  cases f3:(zg w3).2 with
  | false=>simp
  | true=>
  cases f4:(zzb w4).2 with
  | false=>simp
  | true=>
  cases f6:(zab w6).2 with
  | false=>simp
  | true=>
  cases f7:(zg w7).2 with
  | false=>simp
  | true=>
  have core:=fun c hc=>core c f0 f2 f3 f4 f6 f7 hc
  by_cases h5:w5=[45]
  ·have hd:zqc w5=(zChr,false):=by rw[← yfr w5 (hx w5 (by simp)),h5];exact yaz
   have:=core zChr (.inl ⟨h5,rfl⟩)
   rw[hd,show(w5 == [45])=true by simp[h5],show(w5 != [45])=false by simp[h5]]
   simp only[beq_self_eq_true,Bool.and_true,Bool.not_true,Bool.false_or,Bool.or_self,cond_true,cond_false]
   rw[this]
  ·rw[show(w5 == [45])=false by simp[h5],show(w5 != [45])=true by simp[h5]]
   rcases ydg w5 with hd|⟨c,g1,g2,⟨i,g3⟩,hd⟩
   ·rw[hd];simp
   ·have hg:c.Colors.length<9223372036854775808:=by
     rw[g3]
     have:=ybf (yt3 w5 (hx w5 (by simp))) i
     omega
    have:=core c (.inr ⟨g1,g2,hg⟩)
    rw[hd]
    simp only[beq_self_eq_true,Bool.and_true,Bool.not_true,Bool.false_or,Bool.or_self,cond_true,cond_false]
    rw[this]
end Go.Ab

namespace Go.Ab
open Go Go.Proofs
def zqe (a0:Point) (a1:Point):Bool:=
 (bif (a0.X != a1.X)then false else(bif (a0.Y != a1.Y)then false else true))
namespace N110
theorem DD:DOk Tryz.prog (Go.Ab.DD []):=ye _
theorem den (a0:Point) (a1:Point)  : Den Tryz.prog 110 [.agg (ypc a0),.agg (ypc a1)] (.bool (zqe a0 a1)):=by
 generalize hR:zqe a0 a1=r
 unfold zqe at hR
 refine di Tryz.func110 Tryz.ntmps110 Tryz.results110 ?_
 intro c hL hc hk
 clear hL
 simp only[pars,Nat.zero_add]
 iterate 2 refine rS ?_
 refine AWP.cond rfl (fun hb => ?_) (fun hb => ?_)
 ·replace hR:=ct hR
  refine rS ?_
  refine AWP.ret ?_
  subst hR
  exact es
 ·replace hR:=cf hR
  refine rS ?_
  refine AWP.cond rfl (fun hb => ?_) (fun hb => ?_)
  ·replace hR:=ct hR
   refine rS ?_
   refine AWP.ret ?_
   subst hR
   exact es
  ·replace hR:=cf hR
   refine rS ?_
   refine AWP.ret ?_
   subst hR
   exact es
end N110
def D_zqe : DF
 | [x0,x1]=>some (.bool (zqe (rdG yhe x0) (rdG yhe x1)),false,[wG ypc yhe x0,wG ypc yhe x1])
 | _=>none
theorem ysz:OkD Tryz.prog 110 D_zqe:=by unfold D_zqe;exact dk N110.den
end Go.Ab

namespace Go.Ab
open Go Go.Proofs
def zre (a0:Mark) (a1:Mark):Bool:=
 (bif (a0.Kind != a1.Kind)then false else(bif (a0.Colors != a1.Colors)then false else(bif (a0.Shape != a1.Shape)then false else(bif (a0.Topmark != a1.Topmark)then false else true))))
namespace N111
theorem DD:DOk Tryz.prog (Go.Ab.DD []):=ye _
theorem den (a0:Mark) (a1:Mark)  : Den Tryz.prog 111 [.agg (yrc a0),.agg (yrc a1)] (.bool (zre a0 a1)):=by
 generalize hR:zre a0 a1=r
 unfold zre at hR
 refine di Tryz.func111 Tryz.ntmps111 Tryz.results111 ?_
 intro c hL hc hk
 obtain⟨hL0,hL1,_⟩:=hL
 have hw0:bwMark a0:=y0c a0 hL0
 have hw1:bwMark a1:=y0c a1 hL1
 clear hL0 hL1
 simp only[pars,Nat.zero_add]
 iterate 2 refine rS ?_
 refine AWP.cond rfl (fun hb => ?_) (fun hb => ?_)
 ·replace hR:=ct hR
  refine rS ?_
  refine AWP.ret ?_
  subst hR
  exact es
 ·replace hR:=cf hR
  refine rS ?_
  refine AWP.cond rfl (fun hb => ?_) (fun hb => ?_)
  ·replace hR:=ct hR
   refine rS ?_
   refine AWP.ret ?_
   subst hR
   exact es
  ·replace hR:=cf hR
   refine rS ?_
   refine AWP.cond rfl (fun hb => ?_) (fun hb => ?_)
   ·replace hR:=ct hR
    refine rS ?_
    refine AWP.ret ?_
    subst hR
    exact es
   ·replace hR:=cf hR
    refine rS ?_
    refine AWP.cond rfl (fun hb => ?_) (fun hb => ?_)
    ·replace hR:=ct hR
     refine rS ?_
     refine AWP.ret ?_
     subst hR
     exact es
    ·replace hR:=cf hR
     refine rS ?_
     refine AWP.ret ?_
     subst hR
     exact es
end N111
def D_zre : DF
 | [x0,x1]=>some (.bool (zre (rdG yrd x0) (rdG yrd x1)),false,[wG yrc yrd x0,wG yrc yrd x1])
 | _=>none
theorem y2z:OkD Tryz.prog 111 D_zre:=by unfold D_zre;exact dk N111.den
end Go.Ab

namespace Go.Ab
open Go Go.Proofs
def zse (a0:Sector) (a1:Sector):Bool:=
 (bif (a0.From != a1.From)then false else(bif (a0.To != a1.To)then false else(bif (a0.Color != a1.Color)then false else true)))
namespace N221
theorem DD:DOk Tryz.prog (Go.Ab.DD []):=ye _
theorem den (a0:Sector) (a1:Sector)  : Den Tryz.prog 221 [.agg (yj a0),.agg (yj a1)] (.bool (zse a0 a1)):=by
 generalize hR:zse a0 a1=r
 unfold zse at hR
 refine di Tryz.func221 Tryz.ntmps221 Tryz.results221 ?_
 intro c hL hc hk
 obtain⟨hL0,hL1,_⟩:=hL
 have hw0:bwSector a0:=yt a0 hL0
 have hw1:bwSector a1:=yt a1 hL1
 clear hL0 hL1
 simp only[pars,Nat.zero_add]
 iterate 2 refine rS ?_
 refine AWP.cond rfl (fun hb => ?_) (fun hb => ?_)
 ·replace hR:=ct hR
  refine rS ?_
  refine AWP.ret ?_
  subst hR
  exact es
 ·replace hR:=cf hR
  refine rS ?_
  refine AWP.cond rfl (fun hb => ?_) (fun hb => ?_)
  ·replace hR:=ct hR
   refine rS ?_
   refine AWP.ret ?_
   subst hR
   exact es
  ·replace hR:=cf hR
   refine rS ?_
   refine AWP.cond rfl (fun hb => ?_) (fun hb => ?_)
   ·replace hR:=ct hR
    refine rS ?_
    refine AWP.ret ?_
    subst hR
    exact es
   ·replace hR:=cf hR
    refine rS ?_
    refine AWP.ret ?_
    subst hR
    exact es
end N221
def D_zse : DF
 | [x0,x1]=>some (.bool (zse (rdG yp x0) (rdG yp x1)),false,[wG yj yp x0,wG yj yp x1])
 | _=>none
theorem y9x:OkD Tryz.prog 221 D_zse:=by unfold D_zse;exact dk N221.den
end Go.Ab

namespace Go.Ab
open Go Go.Proofs
def ycl (a0:(List Sector)) (a1:(List Sector)) (i1:Nat) (s1:Unit):Except (Bool) (Unit):=
 (bif (!(zse (a0.getD i1 default) (a1.getD i1 default)))then .error false else .ok ())
def zbd (a0:(List Sector)) (a1:(List Sector)):Bool:=
 (bif ((a0.length:Int) != (a1.length:Int))then false else(match yd (ycl a0 a1) (a0.length-0) 0 ()with|.error e=>e|.ok s1=>true))
namespace N113
theorem DD:DOk Tryz.prog (Go.Ab.DD [(221,dP D_zse)]):=ya y9x.e <| ye _
theorem dn:type_of% (@D_zse.eq_1):=by and_intros<;>intros<;>rfl
theorem den (a0:(List Sector)) (a1:(List Sector))  : Den Tryz.prog 113 [encL 3 yj a0,encL 3 yj a1] (.bool (zbd a0 a1)):=by
 generalize hR:zbd a0 a1=r
 unfold zbd at hR
 refine di Tryz.func113 Tryz.ntmps113 Tryz.results113 ?_
 intro c hL hc hk
 obtain⟨hL0,hL1,_⟩:=hL
 have hw0:a0.length<9223372036854775808:=Nat.lt_succ_of_le (ym hL0).1
 have hw1:∀ v∈a0,bwSector v:=fun v hv=>yt v ((ym hL0).2 v hv)
 have hw2:a1.length<9223372036854775808:=Nat.lt_succ_of_le (ym hL1).1
 have hw3:∀ v∈a1,bwSector v:=fun v hv=>yt v ((ym hL1).2 v hv)
 clear hL0 hL1
 simp only[pars,Nat.zero_add]
 iterate 2 refine rS ?_
 refine AWP.cond rfl (fun hb => ?_) (fun hb => ?_)
 ·replace hR:=ct hR
  refine rS ?_
  refine AWP.ret ?_
  subst hR
  exact es
 ·replace hR:=cf hR
  refine rS ?_
  refine AWP.block ?_
  generalize hz1:yd (ycl a0 a1) (a0.length-0) 0 ()=z1 at hR
  refine AWP.range (ycl a0 a1) (fun i1 s1=>⟨[(0,encL 3 yj a0),(1,encL 3 yj a1),(5,.int .i64 (i1:Int))],[]⟩) (fun i1 s1=>True) (a0.length) 0 () [] hz1 ot wt sm ?_
  clear hz1
  intro i1 s1 hi1 hW1 hz1
  refine rS ?_
  refine AWP.cond rfl (fun hb => ?_) (fun hb => ?_)
  ·have hlt1:i1<a0.length:=ot
   rw[yh hlt1]at hz1;simp only[ycl]at hz1
   refine rD 8 ?_
   refine AWP.cond rfl (fun hb => ?_) (fun hb => ?_)
   ·simp only[hb,cond_true]at hz1
    refine rS ?_
    refine AWP.ret ?_
    subst hz1
    dsimp only at hR
    subst hR
    exact es
   ·simp only[hb,cond_false]at hz1
    refine rS ?_
    exact⟨_,[],hlt1,wt,hz1,sm⟩
  ·obtain rfl:i1=a0.length:=ot
   rw[yg (Nat.le_refl _)]at hz1;subst hz1;dsimp only at hR
   refine AWP.exit ?_;refine yb ?_
   refine rS ?_
   refine AWP.ret ?_
   subst hR
   exact es
end N113
def D_zbd : DF
 | [x0,x1]=>some (.bool (zbd (rdL yp x0) (rdL yp x1)),false,[wL 3 yj yp x0,wL 3 yj yp x1])
 | _=>none
theorem yr0:OkD Tryz.prog 113 D_zbd:=by unfold D_zbd;exact dk N113.den
end Go.Ab

namespace Go.Ab
open Go Go.Proofs
def zee (a0:Aid) (a1:Aid):Bool:=
 (bif (a0.Number != a1.Number)then false else(bif (a0.Name != a1.Name)then false else(bif (!(zqe a0.At a1.At))then false else(bif (a0.Height != a1.Height)then false else(bif (!(zre a0.Mark a1.Mark))then false else(bif (!(zoe a0.Light a1.Light))then false else(bif (!(zbd a0.Sectors a1.Sectors))then false else(bif (a0.Intensity != a1.Intensity)then false else true))))))))
namespace N33
theorem DD:DOk Tryz.prog (Go.Ab.DD [(110,dP D_zqe),(111,dP D_zre),(112,dP D_zoe),(113,dP D_zbd)]):=ya ysz.e <| ya y2z.e <| ya y80.e <| ya yr0.e <| ye _
theorem dn:type_of% (And.intro @D_zqe.eq_1 <| And.intro @D_zre.eq_1 <| And.intro @D_zoe.eq_1 <| @D_zbd.eq_1):=by and_intros<;>intros<;>rfl
theorem den (a0:Aid) (a1:Aid)  : Den Tryz.prog 33 [.agg (eAid a0),.agg (eAid a1)] (.bool (zee a0 a1)):=by
 generalize hR:zee a0 a1=r
 unfold zee at hR
 refine di Tryz.func33 Tryz.ntmps33 Tryz.results33 ?_
 intro c hL hc hk
 obtain⟨hL0,hL1,_⟩:=hL
 have hw0:bwAid a0:=y7c a0 hL0
 have hw1:bwAid a1:=y7c a1 hL1
 clear hL0 hL1
 simp only[pars,Nat.zero_add]
 iterate 2 refine rS ?_
 refine AWP.cond rfl (fun hb => ?_) (fun hb => ?_)
 ·replace hR:=ct hR
  refine rS ?_
  refine AWP.ret ?_
  subst hR
  exact es
 ·replace hR:=cf hR
  refine rS ?_
  refine AWP.cond rfl (fun hb => ?_) (fun hb => ?_)
  ·replace hR:=ct hR
   refine rS ?_
   refine AWP.ret ?_
   subst hR
   exact es
  ·replace hR:=cf hR
   refine rS ?_
   refine AWP.cond rfl (fun hb => ?_) (fun hb => ?_)
   ·replace hR:=ct hR
    refine rS ?_
    refine AWP.ret ?_
    subst hR
    exact es
   ·replace hR:=cf hR
    refine rS ?_
    refine AWP.cond rfl (fun hb => ?_) (fun hb => ?_)
    ·replace hR:=ct hR
     refine rS ?_
     refine AWP.ret ?_
     subst hR
     exact es
    ·replace hR:=cf hR
     refine rS ?_
     refine AWP.cond rfl (fun hb => ?_) (fun hb => ?_)
     ·replace hR:=ct hR
      refine rS ?_
      refine AWP.ret ?_
      subst hR
      exact es
     ·replace hR:=cf hR
      refine rS ?_
      refine AWP.cond rfl (fun hb => ?_) (fun hb => ?_)
      ·replace hR:=ct hR
       refine rS ?_
       refine AWP.ret ?_
       subst hR
       exact es
      ·replace hR:=cf hR
       refine rS ?_
       refine AWP.cond rfl (fun hb => ?_) (fun hb => ?_)
       ·replace hR:=ct hR
        refine rS ?_
        refine AWP.ret ?_
        subst hR
        exact es
       ·replace hR:=cf hR
        refine rS ?_
        refine AWP.cond rfl (fun hb => ?_) (fun hb => ?_)
        ·replace hR:=ct hR
         refine rS ?_
         refine AWP.ret ?_
         subst hR
         exact es
        ·replace hR:=cf hR
         refine rS ?_
         refine AWP.ret ?_
         subst hR
         exact es
end N33
def D_zee : DF
 | [x0,x1]=>some (.bool (zee (rdG dAid x0) (rdG dAid x1)),false,[wG eAid dAid x0,wG eAid dAid x1])
 | _=>none
theorem yvz:OkD Tryz.prog 33 D_zee:=by unfold D_zee;exact dk N33.den
end Go.Ab

namespace Go.Ab
open Go Go.Proofs
theorem yi2 (a b:Point):zqe a b=decide (a=b):=by
 unfold zqe
 skip
 by_cases h:a=b
 ·subst h;simp
 ·rw[decide_eq_false h]
  cases a;cases b
  simp only[Point.mk.injEq]at h
  simp only[bne_iff_ne,Bool.cond_eq_ite,ite_eq_right_iff]
  (repeat' split)<;>simp_all
end Go.Ab

namespace Go.Ab
open Go Go.Proofs
theorem y81 (a b:Mark):zre a b=decide (a=b):=by
 unfold zre
 skip
 by_cases h:a=b
 ·subst h;simp
 ·rw[decide_eq_false h]
  cases a;cases b
  simp only[Mark.mk.injEq]at h
  simp only[bne_iff_ne,Bool.cond_eq_ite,ite_eq_right_iff]
  (repeat' split)<;>simp_all
end Go.Ab

namespace Go.Ab
open Go Go.Proofs
theorem y12 (a b:List Int):zzc a b=decide (a=b):=by
 unfold zzc
 by_cases hl:a.length=b.length
 ·have h1:((a.length:Int) != (b.length:Int))=false:=by simp[hl]
  rw[h1,cond_false,y3c (b:=ymk a b) (fun j => !decide (a.getD j default=b.getD j default)) false (fun j u _ _=>by simp only[ymk,ned])]
  simp only[Nat.sub_zero,Nat.zero_add]
  rw[y4s a b hl]
  by_cases h:a=b<;>simp[h]
 ·have h1:((a.length:Int) != (b.length:Int))=true:=by simp;omega
  have h2:¬ a=b:=fun e=>hl (by rw[e])
  rw[h1,cond_true,decide_eq_false h2]
end Go.Ab

namespace Go.Ab
open Go Go.Proofs
theorem yf3 (a b:Character):zoe a b=decide (a=b):=by
 unfold zoe
 simp only[y12]
 by_cases h:a=b
 ·subst h;simp
 ·rw[decide_eq_false h]
  cases a;cases b
  simp only[Character.mk.injEq]at h
  simp only[bne_iff_ne,Bool.cond_eq_ite,ite_eq_right_iff]
  (repeat' split)<;>simp_all
end Go.Ab

namespace Go.Ab
open Go Go.Proofs
theorem yq2 (a b:Sector):zse a b=decide (a=b):=by
 unfold zse
 skip
 by_cases h:a=b
 ·subst h;simp
 ·rw[decide_eq_false h]
  cases a;cases b
  simp only[Sector.mk.injEq]at h
  simp only[bne_iff_ne,Bool.cond_eq_ite,ite_eq_right_iff]
  (repeat' split)<;>simp_all
end Go.Ab

namespace Go.Ab
open Go Go.Proofs
theorem yp2 (a b:List Sector):zbd a b=decide (a=b):=by
 unfold zbd
 by_cases hl:a.length=b.length
 ·have h1:((a.length:Int) != (b.length:Int))=false:=by simp[hl]
  rw[h1,cond_false,y3c (b:=ycl a b) (fun j => !decide (a.getD j default=b.getD j default)) false (fun j u _ _=>by simp only[ycl,yq2])]
  simp only[Nat.sub_zero,Nat.zero_add]
  rw[y4s a b hl]
  by_cases h:a=b<;>simp[h]
 ·have h1:((a.length:Int) != (b.length:Int))=true:=by simp;omega
  have h2:¬ a=b:=fun e=>hl (by rw[e])
  rw[h1,cond_true,decide_eq_false h2]
end Go.Ab

namespace Go.Ab
open Go Go.Proofs
theorem yd2 (a b:Aid):zee a b=decide (a=b):=by
 unfold zee
 simp only[yi2,y81,yf3,yp2]
 by_cases h:a=b
 ·subst h;simp
 ·rw[decide_eq_false h]
  cases a;cases b
  simp only[Aid.mk.injEq]at h
  simp only[bne_iff_ne,Bool.cond_eq_ite,ite_eq_right_iff]
  (repeat' split)<;>simp_all
end Go.Ab

namespace Go.Ab
open Go Go.Proofs
def zfe (a0:(List UInt8)):(Aid×Bool):=
 ((zgd a0).1,(zgd a0).2)
namespace N53
theorem DD:DOk Tryz.prog (Go.Ab.DD [(134,dP D_zgd)]):=ya yhz.e <| ye _
theorem dn:type_of% (@D_zgd.eq_1):=by and_intros<;>intros<;>rfl
theorem den (a0:(List UInt8)) (hb0:a0.length<1099511627776) (hp0:a0.length≤1048576):Den Tryz.prog 53 [.str a0] (.tup [.agg (yci ((zfe a0).1)),.bool ((zfe a0).2)]):=by
 generalize hR:zfe a0=r
 unfold zfe at hR
 refine di Tryz.func53 Tryz.ntmps53 Tryz.results53 ?_
 intro c hL hc hk
 obtain⟨hL0,_⟩:=hL
 have hw0:a0.length<9223372036854775808:=Nat.lt_succ_of_le hL0
 clear hL0
 simp only[pars,Nat.zero_add]
 iterate 2 refine rS ?_
 refine AWP.ret ?_
 subst hR
 exact es
end N53
def D_zfe : DF
 | [x0]=>some (.tup [.agg (yci ((zfe (rdS x0)).1)),.bool ((zfe (rdS x0)).2)],false,[wS x0,(rdS x0).length<1099511627776,(rdS x0).length≤1048576])
 | _=>none
theorem ypx:OkD Tryz.prog 53 D_zfe:=by unfold D_zfe;exact dk N53.den
end Go.Ab

namespace Go.Ab
open Go Go.Proofs
theorem ybu (a:Aid) (k:Int) (h:k≤9223372036854775807):(zeb a k).1≤9223372036854775807:=by
 unfold zeb
 exact yld _ _ (yie _ _ h)
theorem ygd (a:Aid) (k:Int):(zeb a k).2.Light.Group.length=a.Light.Group.length:=by
 unfold zeb
 exact y6h _ _
theorem yhd (a:Aid) (k:Int):(zeb a k).2.Sectors.length=a.Sectors.length:=by
 unfold zeb
 exact ygb _ _
theorem y7h (a:Aid) (k:Int):subL (zeb a k).2.Light.Group 0 a.Light.Group.length=(zeb a k).2.Light.Group:=by
 rw[← ygd a k];exact ybe _
theorem y5h (a:Aid) (k:Int):subL (zeb a k).2.Sectors 0 a.Sectors.length=(zeb a k).2.Sectors:=by
 rw[← yhd a k];exact ybe _
end Go.Ab

namespace Go.Ab
open Go Go.Proofs
def zuf (a0:(List UInt8)):Bool:=
 (bif decide (1048576<(a0.length:Int))then true else(bif ((!(zee ((zy a0).1) ((zfe a0).1))) || (!(((zy a0).2) == ((zfe a0).2))))then false else(bif decide ((zpe ({ Number:=((zy a0).1).Number,Name:=((zy a0).1).Name,At:=((zy a0).1).At,Height:=((zy a0).1).Height,Mark:=((zy a0).1).Mark,Light:={ Kind:=(((zy a0).1).Light).Kind,Group:=(((zeb ((zy a0).1) 1).2).Light).Group,Letter:=(((zy a0).1).Light).Letter,Colors:=(((zy a0).1).Light).Colors,Period:=(((zy a0).1).Light).Period:Character },Sectors:=((zeb ((zy a0).1) 1).2).Sectors,Intensity:=((zy a0).1).Intensity:Aid }) 1)<0)then false else(bif ((zpe ({ Number:=((zy a0).1).Number,Name:=((zy a0).1).Name,At:=((zy a0).1).At,Height:=((zy a0).1).Height,Mark:=((zy a0).1).Mark,Light:={ Kind:=(((zy a0).1).Light).Kind,Group:=(((zeb ((zy a0).1) 1).2).Light).Group,Letter:=(((zy a0).1).Light).Letter,Colors:=(((zy a0).1).Light).Colors,Period:=(((zy a0).1).Light).Period:Character },Sectors:=((zeb ((zy a0).1) 1).2).Sectors,Intensity:=((zy a0).1).Intensity:Aid }) 1) != ((zeb ((zy a0).1) 1).1))then false else true))))
namespace N8
theorem DD:DOk Tryz.prog (Go.Ab.DD [(33,dP D_zee),(53,dP D_zfe),(54,dP D_zy),(55,dM [true,false] D_zeb),(56,dP D_zpe)]):=ya yvz.e <| ya ypx.e <| ya y62.e <| ya yv0.e <| ya y0z.e <| ye _
theorem dn:type_of% (And.intro @D_zee.eq_1 <| And.intro @D_zfe.eq_1 <| And.intro @D_zy.eq_1 <| And.intro @D_zeb.eq_1 <| And.intro @D_zpe.eq_1 <| And.intro @y7h <| @y5h):=And.intro @D_zee.eq_1 <| And.intro @D_zfe.eq_1 <| And.intro @D_zy.eq_1 <| And.intro @D_zeb.eq_1 <| And.intro @D_zpe.eq_1 <| And.intro @y7h <| @y5h
theorem ol:type_of% (And.intro @ygd <| @yhd):=And.intro @ygd <| @yhd
theorem gr {p:Prop} (h:p:=by(grind [ybu]);first|done|fail):p:=h
theorem o1 {p:Prop} (h:p:=by(first|(simp only[ygd,yhd];first|exact y7 _|exact Nat.le_refl _|omega));first|done|fail):p:=h
set_option maxHeartbeats 4000000 in
set_option maxRecDepth 20000 in
theorem _root_.Go.Ab.zuf_den (a0:(List UInt8))  : Den Tryz.prog 8 [.str a0] (.bool (zuf a0)):=by
 generalize hR:zuf a0=r
 unfold zuf at hR
 refine di Tryz.func8 Tryz.ntmps8 Tryz.results8 ?_
 intro c hL hc hk
 obtain⟨hL0,_⟩:=hL
 have hw0:a0.length<9223372036854775808:=Nat.lt_succ_of_le hL0
 clear hL0
 simp only[pars,Nat.zero_add]
 iterate 2 refine rS ?_
 refine AWP.cond rfl (fun hb => ?_) (fun hb => ?_)
 ·replace hR:=ct hR
  refine rS ?_
  refine AWP.ret ?_
  subst hR
  exact es
 ·replace hR:=cf hR
  iterate 3 refine rS ?_
  refine AWP.cond rfl (fun hb => ?_) (fun hb => ?_)
  ·replace hR:=ct hR
   refine rS ?_
   refine AWP.ret ?_
   subst hR
   exact es
  ·replace hR:=cf hR
   iterate 5 refine rS ?_
   refine AWP.cond rfl (fun hb => ?_) (fun hb => ?_)
   ·replace hR:=ct hR
    refine rS ?_
    refine AWP.ret ?_
    subst hR
    exact es
   ·replace hR:=cf hR
    refine rS ?_
    refine AWP.cond rfl (fun hb => ?_) (fun hb => ?_)
    ·replace hR:=ct hR
     refine rS ?_
     refine AWP.ret ?_
     subst hR
     exact es
    ·replace hR:=cf hR
     iterate 2 refine rS ?_
     refine AWP.cond rfl (fun hb => ?_) (fun hb => ?_)
     ·exfalso;simp_all
     ·refine rS ?_
      iterate 2 refine rS ?_
      refine AWP.cond rfl (fun hb => ?_) (fun hb => ?_)
      ·exfalso;simp_all
      ·refine rS ?_
       refine AWP.cond rfl (fun hb => ?_) (fun hb => ?_)
       ·exfalso;simp_all
       ·refine rS ?_
        refine AWP.ret ?_
        subst hR
        exact es
end N8
end Go.Ab

namespace Go.Ab
open Go Go.Proofs
theorem fin2 {α:Type} {V:α→Prop} {z:α} (m:α) (c:Bool) (hc:c=false→V m):(bif c then(z,false)else(m,true))=(z,false)∨∃ p,(bif c then(z,false)else(m,true))=(p,true)∧V p:=by
 cases c with
 | true=>exact .inl rfl
 | false=>exact .inr ⟨m,rfl,hc rfl⟩
theorem y7q (s:List UInt8):zgd s=(zAid,false)∨∃ a,zgd s=(a,true)∧zxb a=true:=by
 unfold zgd
 cases(((za s 47).length:Int) != 8)with
 | true=>exact .inl rfl
 | false=>
  rw[cond_false]
  cases((((((!((zg ((za s 47).getD 0 default)).2)) || (!((zpb ((za s 47).getD 2 default)).2))) || (!((zg ((za s 47).getD 3 default)).2))) || (!((zzb ((za s 47).getD 4 default)).2))) || (!((zab ((za s 47).getD 6 default)).2))) || (!((zg ((za s 47).getD 7 default)).2)))with
  | true=>exact .inl rfl
  | false=>
   rw[cond_false]
   cases(((za s 47).getD 5 default) != [45])with
   | true=>
    rw[cond_true]
    cases(!((zqc ((za s 47).getD 5 default)).2))with
    | true=>exact .inl rfl
    | false=>rw[cond_false];exact fin2 (V:=fun a=>zxb a=true) _ _ (fun h=>by simpa using h)
   | false=>rw[cond_false];exact fin2 (V:=fun a=>zxb a=true) _ _ (fun h=>by simpa using h)
theorem y72 {a:Aid} (h:zxb a=true):a.Light.Group.length≤4∧a.Sectors.length≤12:=by
 refine⟨?_,(yee (yve h).2.2.2.2.2.2.2.2.1).1⟩
 cases ht:zmf a with
 | true=>
  have hk:=(yve h).2.2.2.2.2.2.2.1 ht
  unfold zlb at hk
  cases hs:zwd a.Light with
  | true=>exact(yrj _ hs).1
  | false=>rw[hs]at hk;cases hk
 | false=>
  unfold zxb at h
  cases hc:(((((!(zl a.Number 1 9999)) || (!(zdc a.Name))) || (!(zwb a.At))) || (!(zl a.Height 0 3000))) || (!(zoc a.Mark)))with
  | true=>rw[hc]at h;cases h
  | false=>
   rw[hc,cond_false]at h
   cases hp:zyc a.Light with
   | true=>
    unfold zyc at hp
    simp only[Bool.and_eq_true,beq_iff_eq]at hp
    have:=hp.1.1.1.2
    omega
   | false=>
    rw[hp,cond_false]at h
    cases hd:(((!(zlb a.Light)) || (!(zl a.Intensity 1 100000000))) || (!(zq a.Sectors)))with
    | true=>rw[hd]at h;cases h
    | false=>
     simp only[Bool.or_eq_false_iff,Bool.not_eq_false']at hd
     have hk:=hd.1.1
     unfold zlb at hk
     cases hs:zwd a.Light with
     | true=>exact(yrj _ hs).1
     | false=>rw[hs]at hk;cases hk
theorem yiw (s:List UInt8):(zgd s).1.Light.Group.length≤4∧(zgd s).1.Sectors.length≤12:=by
 rcases y7q s with h|⟨a,h,h1⟩
 ·rw[h];exact⟨by simp,by simp⟩
 ·rw[h];exact y72 h1
theorem yyq (a0:List UInt8) (hf:a0.length<9223372036854775808):zuf a0=true:=by
 unfold zuf
 by_cases h:1048576<(a0.length:Int)
 ·rw[decide_eq_true h];rfl
 ·rw[decide_eq_false h]
  have e:zfe a0=zy a0:=(yjl a0 (by omega)).symm
  have hg:=yiw a0
  rw[← yjl a0 (by omega)]at hg
  rw[e]
  generalize zy a0=r at hg
  have hm:=ycp r.1 1 (by omega) (by omega) (by omega) (by omega)
  have e2:({ Number:=(r.1).Number,Name:=(r.1).Name,At:=(r.1).At,Height:=(r.1).Height,Mark:=(r.1).Mark,Light:={ Kind:=((r.1).Light).Kind,Group:=(((zeb (r.1) 1).2).Light).Group,Letter:=((r.1).Light).Letter,Colors:=((r.1).Light).Colors,Period:=((r.1).Light).Period:Character },Sectors:=((zeb (r.1) 1).2).Sectors,Intensity:=(r.1).Intensity:Aid })=(zeb r.1 1).2:=rfl
  rw[e2,hm.1,decide_eq_false hm.2]
  simp only[yd2]
  simp
end Go.Ab
