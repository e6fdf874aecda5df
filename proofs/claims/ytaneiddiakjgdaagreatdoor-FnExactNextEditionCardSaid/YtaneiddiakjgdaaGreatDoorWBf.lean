/- A part of a proof: walks of functions and lemmas of our own. No conditions. -/
import Derived.Test.YtaneiddiakjgdaaGreatDoorWBe
import Derived.Test.YtaneiddiakjgdaaGreatDoorWAi
import Derived.Test.YtaneiddiakjgdaaGreatDoorWAp
import Derived.Test.YtaneiddiakjgdaaGreatDoorWAl
import Derived.Test.YtaneiddiakjgdaaGreatDoorWAs
import Derived.Test.YtaneiddiakjgdaaGreatDoorWAz
import Derived.Test.YtaneiddiakjgdaaGreatDoorWBc
import Derived.Test.YtaneiddiakjgdaaGreatDoorWAv
import Derived.Test.YtaneiddiakjgdaaGreatDoorWAw
import Derived.Test.YtaneiddiakjgdaaGreatDoorWBa
import Derived.Test.YtaneiddiakjgdaaGreatDoorWAn
import Derived.Test.YtaneiddiakjgdaaGreatDoorWBb
set_option linter.unusedSectionVars false
set_option linter.unusedVariables false
set_option linter.unusedSimpArgs false
set_option maxHeartbeats 1000000
namespace Go.Ab
open Go Go.Proofs
theorem yjp (x:Edition) (n:Int) (h0 : -1≤n) (h1:n≤1048576) (hx:bwEdition x) : -1≤ztb x n∧ztb x n≤n∧(¬ ztb x n<0→ysj x):=by
 have b0:=hx
 unfold ztb
 have f0:=y3w x.Aids (n) (by omega) (by omega) b0.1 b0.2
 by_cases c0:zac x.Aids (n)<0
 ·rw[decide_eq_true c0];exact⟨by simp,by simpa using h0,fun h=>absurd (by simp) h⟩
 rw[decide_eq_false c0]
 simp only[cond_false]
 exact⟨by omega,by omega,fun _=>f0.2.2 c0⟩
end Go.Ab

namespace Go.Ab
open Go Go.Proofs
def zbh (a0:Edition):Bool:=
 (((zrc a0.Number) && (zec a0.Day)) && (zp a0.Aids))
namespace N119
theorem DD:DOk Tryz.prog (Go.Ab.DD [(158,dP D_zrc),(73,dP D_zec),(79,dP D_zp)]):=ya yrm.e <| ya y5i.e <| ya y1k.e <| ye _
theorem dn:type_of% (And.intro @D_zrc.eq_1 <| And.intro @D_zec.eq_1 <| @D_zp.eq_1):=by and_intros<;>intros<;>rfl
theorem gr {p:Prop} (h:p:=by(grind [yxc]);first|done|fail):p:=h
theorem den (a0:Edition) (hb0:bdEdition a0):Den Tryz.prog 119 [.agg (eEdition a0)] (.bool (zbh a0)):=by
 generalize hR:zbh a0=r
 unfold zbh at hR
 refine di Tryz.func119 Tryz.ntmps119 Tryz.results119 ?_
 intro c hL hc hk
 obtain⟨hL0,_⟩:=hL
 have hw0:bwEdition a0:=yob a0 hL0
 clear hL0
 simp only[pars,Nat.zero_add]
 iterate 2 refine rS ?_
 refine AWP.ret ?_
 subst hR
 exact es
end N119
def D_zbh : DF
 | [x0]=>some (.bool (zbh (rdG yx x0)),false,[wG eEdition yx x0,bdEdition (rdG yx x0)])
 | _=>none
theorem y00:OkD Tryz.prog 119 D_zbh:=by unfold D_zbh;exact dk N119.den
end Go.Ab

namespace Go.Ab
open Go Go.Proofs
def zqb (a0:Edition) (a1:(List Notice)) (a2:Int):(Edition×Int):=
 (bif ((!(zbh a0)) || (!(zy a1)))then({ Number:=0,Day:=0,Aids:=[]:Edition },1)else(bif (!(zec a2))then({ Number:=0,Day:=0,Aids:=[]:Edition },2)else(bif (decide (a2<a0.Day) || (a0.Number == 9999))then({ Number:=0,Day:=0,Aids:=[]:Edition },7)else(bif (((zse a0.Aids a1 a2).2) != 0)then({ Number:=0,Day:=0,Aids:=[]:Edition },(zse a0.Aids a1 a2).2)else({ Number:=IntKind.wrap .i64 (a0.Number+1),Day:=a2,Aids:=(zse a0.Aids a1 a2).1:Edition },0)))))
namespace N46
theorem DD:DOk Tryz.prog (Go.Ab.DD [(119,dP D_zbh),(44,dP D_zse),(72,dP D_zy),(73,dP D_zec)]):=ya y00.e <| ya ycy.e <| ya ypq.e <| ya y5i.e <| ye _
theorem dn:type_of% (And.intro @D_zbh.eq_1 <| And.intro @D_zse.eq_1 <| And.intro @D_zy.eq_1 <| @D_zec.eq_1):=by and_intros<;>intros<;>rfl
theorem gr {p:Prop} (h:p:=by(grind [y0i]);first|done|fail):p:=h
theorem den (a0:Edition) (a1:(List Notice)) (a2:Int) (hb0:bdEdition a0) (hb1:a1.length<1099511627776) (hb2:∀ v∈a1,bdNotice v) (hp0:a0.Aids.length≤1048576) (hp1:a1.length≤1048576):Den Tryz.prog 46 [.agg (eEdition a0),encL 20 eNotice a1,.int .i64 a2] (.tup [.agg (yhc ((zqb a0 a1 a2).1)),.int .i64 ((zqb a0 a1 a2).2)]):=by
 generalize hR:zqb a0 a1 a2=r
 unfold zqb at hR
 refine di Tryz.func46 Tryz.ntmps46 Tryz.results46 ?_
 intro c hL hc hk
 obtain⟨hL0,hL1,hL2,_⟩:=hL
 have hw0:bwEdition a0:=yob a0 hL0
 have hw1:a1.length<9223372036854775808:=Nat.lt_succ_of_le (yb hL1).1
 have hw2:∀ v∈a1,bwNotice v:=fun v hv=>yg v ((yb hL1).2 v hv)
 clear hL0 hL1 hL2
 simp only[pars,Nat.zero_add]
 iterate 2 refine rS ?_
 refine AWP.cond rfl (fun hb => ?_) (fun hb => ?_)
 ·replace hR:=ct hR
  refine rS ?_
  refine AWP.ret ?_
  subst hR
  exact es
 ·replace hR:=cf hR
  refine rS ?_
  refine AWP.cond rfl (fun hb => ?_) (fun hb => ?_)
  ·replace hR:=ct hR
   refine rS ?_
   refine AWP.ret ?_
   subst hR
   exact es
  ·replace hR:=cf hR
   refine rS ?_
   refine AWP.cond rfl (fun hb => ?_) (fun hb => ?_)
   ·replace hR:=ct hR
    refine rS ?_
    refine AWP.ret ?_
    subst hR
    exact es
   ·replace hR:=cf hR
    iterate 2 refine rS ?_
    refine AWP.cond rfl (fun hb => ?_) (fun hb => ?_)
    ·replace hR:=ct hR
     refine rS ?_
     refine AWP.ret ?_
     subst hR
     exact es
    ·replace hR:=cf hR
     refine rS ?_
     refine AWP.ret ?_
     subst hR
     exact es
end N46
def D_zqb : DF
 | [x0,x1,x2]=>some (.tup [.agg (yhc ((zqb (rdG yx x0) (rdL yc x1) (rdI x2)).1)),.int .i64 ((zqb (rdG yx x0) (rdL yc x1) (rdI x2)).2)],false,[wG eEdition yx x0,wL 20 eNotice yc x1,wI .i64 x2,bdEdition (rdG yx x0),(rdL yc x1).length<1099511627776,∀ v∈(rdL yc x1),bdNotice v,(rdG yx x0).Aids.length≤1048576,(rdL yc x1).length≤1048576])
 | _=>none
theorem yxs:OkD Tryz.prog 46 D_zqb:=by unfold D_zqb;exact dk N46.den
end Go.Ab

namespace Go.Ab
open Go Go.Proofs
def zch (a0:Edition):Bool:=
 (((zd a0.Number 1 9999) && (znb a0.Day)) && (zkb a0.Aids))
namespace N136
theorem DD:DOk Tryz.prog (Go.Ab.DD [(137,dP D_zd),(70,dP D_znb),(77,dP D_zkb)]):=ya y9d.e <| ya y8m.e <| ya ywz.e <| ye _
theorem dn:type_of% (And.intro @D_zd.eq_1 <| And.intro @D_znb.eq_1 <| @D_zkb.eq_1):=by and_intros<;>intros<;>rfl
theorem ol:type_of% (@zd.eq_1):=@zd.eq_1
theorem gr {p:Prop} (h:p:=by(grind [y2v]);first|done|fail):p:=h
theorem den (a0:Edition) (hb0:bdEdition a0):Den Tryz.prog 136 [.ep (eEdition a0)] (.bool (zch a0)):=by
 generalize hR:zch a0=r
 unfold zch at hR
 refine di Tryz.func136 Tryz.ntmps136 Tryz.results136 ?_
 intro c hL hc hk
 obtain⟨hL0,_⟩:=hL
 have hw0:bwEdition a0:=yob a0 hL0
 clear hL0
 simp only[pars,Nat.zero_add]
 iterate 2 refine rS ?_
 refine AWP.ret ?_
 subst hR
 exact es
end N136
def D_zch : DF
 | [x0]=>some (.bool (zch (rdP yx x0)),false,[wP eEdition yx x0,bdEdition (rdP yx x0)])
 | _=>none
theorem yj0:OkD Tryz.prog 136 D_zch:=by unfold D_zch;exact dk N136.den
end Go.Ab

namespace Go.Ab
open Go Go.Proofs
def ztc (a0:Edition) (a1:(List Notice)) (a2:Int):(Edition×Int):=
 (bif ((!(zch a0)) || (!(zu a1)))then({ Number:=0,Day:=0,Aids:=[]:Edition },1)else(bif (!(znb a2))then({ Number:=0,Day:=0,Aids:=[]:Edition },2)else(bif (decide (a2<a0.Day) || (a0.Number == 9999))then({ Number:=0,Day:=0,Aids:=[]:Edition },7)else(bif (((zab a0.Aids a1 a2).2.2) != 0)then({ Number:=0,Day:=0,Aids:=[]:Edition },(zab a0.Aids a1 a2).2.2)else({ Number:=IntKind.wrap .i64 (a0.Number+1),Day:=a2,Aids:=(zab a0.Aids a1 a2).1:Edition },0)))))
namespace N64
theorem DD:DOk Tryz.prog (Go.Ab.DD [(129,dP D_zab),(136,dP D_zch),(69,dP D_zu),(70,dP D_znb)]):=ya y1y.e <| ya yj0.e <| ya yjv.e <| ya y8m.e <| ye _
theorem dn:type_of% (And.intro @D_zab.eq_1 <| And.intro @D_zch.eq_1 <| And.intro @D_zu.eq_1 <| @D_znb.eq_1):=by and_intros<;>intros<;>rfl
theorem gr {p:Prop} (h:p:=by(grind [ybj]);first|done|fail):p:=h
theorem den (a0:Edition) (a1:(List Notice)) (a2:Int) (hb0:bdEdition a0) (hb1:a1.length<1099511627776) (hb2:∀ v∈a1,bdNotice v) (hp0:a0.Aids.length≤1048576) (hp1:a1.length≤1048576):Den Tryz.prog 64 [.agg (eEdition a0),encL 20 eNotice a1,.int .i64 a2] (.tup [.agg (yhc ((ztc a0 a1 a2).1)),.int .i64 ((ztc a0 a1 a2).2)]):=by
 generalize hR:ztc a0 a1 a2=r
 unfold ztc at hR
 refine di Tryz.func64 Tryz.ntmps64 Tryz.results64 ?_
 intro c hL hc hk
 obtain⟨hL0,hL1,hL2,_⟩:=hL
 have hw0:bwEdition a0:=yob a0 hL0
 have hw1:a1.length<9223372036854775808:=Nat.lt_succ_of_le (yb hL1).1
 have hw2:∀ v∈a1,bwNotice v:=fun v hv=>yg v ((yb hL1).2 v hv)
 clear hL0 hL1 hL2
 simp only[pars,Nat.zero_add]
 iterate 2 refine rS ?_
 refine AWP.cond rfl (fun hb => ?_) (fun hb => ?_)
 ·replace hR:=ct hR
  refine rS ?_
  refine AWP.ret ?_
  subst hR
  exact es
 ·replace hR:=cf hR
  refine rS ?_
  refine AWP.cond rfl (fun hb => ?_) (fun hb => ?_)
  ·replace hR:=ct hR
   refine rS ?_
   refine AWP.ret ?_
   subst hR
   exact es
  ·replace hR:=cf hR
   refine rS ?_
   refine AWP.cond rfl (fun hb => ?_) (fun hb => ?_)
   ·replace hR:=ct hR
    refine rS ?_
    refine AWP.ret ?_
    subst hR
    exact es
   ·replace hR:=cf hR
    iterate 2 refine rS ?_
    refine AWP.cond rfl (fun hb => ?_) (fun hb => ?_)
    ·replace hR:=ct hR
     refine rS ?_
     refine AWP.ret ?_
     subst hR
     exact es
    ·replace hR:=cf hR
     refine rS ?_
     refine AWP.ret ?_
     subst hR
     exact es
end N64
def D_ztc : DF
 | [x0,x1,x2]=>some (.tup [.agg (yhc ((ztc (rdG yx x0) (rdL yc x1) (rdI x2)).1)),.int .i64 ((ztc (rdG yx x0) (rdL yc x1) (rdI x2)).2)],false,[wG eEdition yx x0,wL 20 eNotice yc x1,wI .i64 x2,bdEdition (rdG yx x0),(rdL yc x1).length<1099511627776,∀ v∈(rdL yc x1),bdNotice v,(rdG yx x0).Aids.length≤1048576,(rdL yc x1).length≤1048576])
 | _=>none
theorem yhs:OkD Tryz.prog 64 D_ztc:=by unfold D_ztc;exact dk N64.den
end Go.Ab

namespace Go.Ab
open Go Go.Proofs
theorem ywd (a:List Aid) (k:Int) (h:k≤9223372036854775807):(zlb a k).1≤9223372036854775807:=by
 unfold zlb
 obtain⟨t,h1,h2⟩:=yib (b:=ynk a k) (fun _ s=>s.1≤9223372036854775807) (k:=a.length-0) (i:=0) (s:=(k,a)) h (by
  intro j u _ _ h
  exact⟨_,rfl,y7c _⟩)
 rw[h1]
 exact h2
theorem yuc (a:List Aid) (k:Int):(zlb a k).2.length=a.length:=by
 unfold zlb
 obtain⟨t,h1,h2⟩:=yib (b:=ynk a k) (fun _ s=>s.2.length=a.length) (k:=a.length-0) (i:=0) (s:=(k,a)) rfl (by
  intro j u _ _ h
  exact⟨_,rfl,by simpa using h⟩)
 rw[h1]
 exact h2
theorem y3d (a:List Aid) (k:Int):subL (zlb a k).2 0 a.length=(zlb a k).2:=by
 rw[← yuc a k];exact y8c _
end Go.Ab

namespace Go.Ab
open Go Go.Proofs
def zcf (a0:Edition) (a1:Int):Int×Edition:=
 (((zlb a0.Aids a1).1),{ a0 with Aids:=(zlb a0.Aids a1).2 })
namespace N67
theorem DD:DOk Tryz.prog (Go.Ab.DD []):=ye _
theorem dn:type_of% (@y3d):=@y3d
theorem ol:type_of% (@yuc):=@yuc
theorem gr {p:Prop} (h:p:=by(grind [ywd]);first|done|fail):p:=h
theorem den (a0:Edition) (a1:Int) (hp0:a1≤9223372036854775807):DenD Tryz.prog 67 [.agg (yhc a0),.int .i64 a1] (.int .i64 ((zcf a0 a1).1)) [(.agg [.any,.any,(ownL 63 16 ygb (((zcf a0 a1).2).Aids))]),.any]:=by
 generalize hR:zcf a0 a1=r
 unfold zcf at hR
 refine y2h (gb:=[true,false]) G_ok Tryz.func67 (by kernel_rfl) rfl Tryz.ntmps67 (by rw[Tryz.results67]) (by simp) ?_
 intro c hdp hL hc hk
 obtain⟨hL0,hL1,_⟩:=hL
 have hw0:bwEdition a0:=y7m a0 hL0
 clear hL0 hL1
 simp only[adEL,adE,adRL,adR,ownL,encL,sv,List.nil_append,List.append_nil,List.cons_append,List.length_cons,List.length_nil,pars,Nat.zero_add,Nat.reduceAdd]at hk ⊢
 refine rS ?_
 refine AWP.seq ?_
 refine rX 3 (N28.den a0.Aids a1 ot) ?_
 refine rS ?_
 refine AWP.ret ?_
 subst hR
 exact es
end N67
end Go.Ab

namespace Go.Ab
open Go Go.Proofs
def zdf (a0:Edition) (a1:Int):Int:=
 (bif decide ((zwc a0.Aids a1)<0)then(-1)else(zwc a0.Aids a1))
namespace N68
theorem DD:DOk Tryz.prog (Go.Ab.DD [(37,dP D_zwc)]):=ya y3z.e <| ye _
theorem dn:type_of% (And.intro @D_zwc.eq_1 <| @y3d):=And.intro @D_zwc.eq_1 <| @y3d
theorem ol:type_of% (@yuc):=@yuc
theorem gr {p:Prop} (h:p:=by(grind [ywd]);first|done|fail):p:=h
theorem den (a0:Edition) (a1:Int) (hp0:a1≤9223372036854775807):Den Tryz.prog 68 [.agg (eEdition a0),.int .i64 a1] (.int .i64 (zdf a0 a1)):=by
 generalize hR:zdf a0 a1=r
 unfold zdf at hR
 refine di Tryz.func68 Tryz.ntmps68 Tryz.results68 ?_
 intro c hL hc hk
 obtain⟨hL0,hL1,_⟩:=hL
 have hw0:bwEdition a0:=yob a0 hL0
 clear hL0 hL1
 simp only[pars,Nat.zero_add]
 iterate 3 refine rS ?_
 refine AWP.cond rfl (fun hb => ?_) (fun hb => ?_)
 ·replace hR:=ct hR
  refine rS ?_
  refine AWP.ret ?_
  subst hR
  exact es
 ·replace hR:=cf hR
  refine rS ?_
  refine AWP.ret ?_
  subst hR
  exact es
end N68
def D_zdf : DF
 | [x0,x1]=>some (.int .i64 (zdf (rdG yx x0) (rdI x1)),false,[wG eEdition yx x0,wI .i64 x1,(rdI x1)≤9223372036854775807])
 | _=>none
theorem y8r:OkD Tryz.prog 68 D_zdf:=by unfold D_zdf;exact dk N68.den
end Go.Ab

namespace Go.Ab
open Go Go.Proofs
theorem y8f (a:Edition) (k:Int) (h:k≤9223372036854775807):(zcf a k).1≤9223372036854775807:=by
 unfold zcf
 exact ywd _ _ h
theorem yxb (a:Edition) (k:Int):(zcf a k).2.Aids.length=a.Aids.length:=by
 unfold zcf
 exact yuc _ _
theorem yyc (a:Edition) (k:Int):subL (zcf a k).2.Aids 0 a.Aids.length=(zcf a k).2.Aids:=by
 rw[← yxb a k];exact y8c _
end Go.Ab

namespace Go.Ab
open Go Go.Proofs
def zih (a0:Edition) (a1:(List Notice)) (a2:Int):Bool:=
 (bif decide ((ztb a0 1048576)<0)then true else(bif decide ((zm a1 (ztb a0 1048576))<0)then true else(bif ((!(zyd ((zqb (zn a0) (zf a1) a2).1) ((ztc (zn a0) (zf a1) a2).1))) || (((zqb (zn a0) (zf a1) a2).2) != ((ztc (zn a0) (zf a1) a2).2)))then false else(bif (!(zyd (zn a0) (zn a0)))then false else(bif (!(zw (zf a1) (zf a1)))then false else(bif ((decide (((zdb (zf a1) ((zcf (zn a0) 1).1)).1)<0) || (!(zyd ((zqb (zn a0) (zf a1) a2).1) ((ztc (zn a0) (zf a1) a2).1)))) || (((zqb (zn a0) (zf a1) a2).2) != ((ztc (zn a0) (zf a1) a2).2)))then false else(bif decide ((zdf ({ Number:=((zqb (zn a0) (zf a1) a2).1).Number,Day:=((zqb (zn a0) (zf a1) a2).1).Day,Aids:=((zcf ((zqb (zn a0) (zf a1) a2).1) 1).2).Aids:Edition }) 1)<0)then false else(bif ((zdf ({ Number:=((zqb (zn a0) (zf a1) a2).1).Number,Day:=((zqb (zn a0) (zf a1) a2).1).Day,Aids:=((zcf ((zqb (zn a0) (zf a1) a2).1) 1).2).Aids:Edition }) 1) != ((zcf ((zqb (zn a0) (zf a1) a2).1) 1).1))then false else true))))))))
namespace N12
theorem DD:DOk Tryz.prog (Go.Ab.DD [(13,dP D_zm),(15,dP D_zf),(18,dP D_zw),(46,dP D_zqb),(63,dP D_ztb),(64,dP D_ztc),(65,dP D_zn),(66,dP D_zyd),(68,dP D_zdf)]):=ya yin.e <| ya y4m.e <| ya ykn.e <| ya yxs.e <| ya yvs.e <| ya yhs.e <| ya yd3.e <| ya yfs.e <| ya y8r.e <| ye _
theorem DZ:DOk Tryz.prog (Go.Ab.DD [(13,dP D_zm),(15,dP D_zf),(18,dP D_zw),(46,dP D_zqb),(63,dP D_ztb),(64,dP D_ztc),(65,dP Dz_zn),(66,dP D_zyd),(68,dP D_zdf)]):=ya yin.e <| ya y4m.e <| ya ykn.e <| ya yxs.e <| ya yvs.e <| ya yhs.e <| ya ywx.e <| ya yfs.e <| ya y8r.e <| ye _
theorem dn:type_of% (And.intro @D_zm.eq_1 <| And.intro @D_zf.eq_1 <| And.intro @D_zw.eq_1 <| And.intro @D_zqb.eq_1 <| And.intro @D_ztb.eq_1 <| And.intro @D_ztc.eq_1 <| And.intro @D_zn.eq_1 <| And.intro @D_zyd.eq_1 <| And.intro @D_zdf.eq_1 <| And.intro @Dz_zn.eq_1 <| And.intro @y5b <| And.intro @yyc <| And.intro @yxb <| And.intro @yyc <| @yxb):=And.intro @D_zm.eq_1 <| And.intro @D_zf.eq_1 <| And.intro @D_zw.eq_1 <| And.intro @D_zqb.eq_1 <| And.intro @D_ztb.eq_1 <| And.intro @D_ztc.eq_1 <| And.intro @D_zn.eq_1 <| And.intro @D_zyd.eq_1 <| And.intro @D_zdf.eq_1 <| And.intro @Dz_zn.eq_1 <| And.intro @y5b <| And.intro @yyc <| And.intro @yxb <| And.intro @yyc <| @yxb
theorem ol:type_of% (And.intro @yqu <| And.intro @ygc <| And.intro @y02 <| @yxb):=And.intro @yqu <| And.intro @ygc <| And.intro @y02 <| @yxb
theorem gr {p:Prop} (h:p:=by(grind [yac,y8f,y8f]);first|done|fail):p:=h
theorem o1 {p:Prop} (h:p:=by(first|(exact mrg)|(exact ywd _ _ (by exact mrg))|((try simp only[ol]);first|(have h9:=hG0 (by assumption);first|exact h9.2|exact h9.1|omega)|(have h9:=hG1 (by assumption);first|exact h9.2|exact h9.1|omega))|((try simp only[ol]);have h9:=(hG0 (by assumption)).2;first|exact h9.1|exact h9.2|exact h9.2.1.1|exact h9.2.1.2.1|exact h9.2.1.2.2|exact h9.2.2.1.1|exact h9.2.2.1.2.1|exact h9.2.2.1.2.2|exact h9.2.2.2.1|exact h9.2.2.2.2|omega)|((try simp only[ol]);have h9:=(hG0 (by assumption)).1;first|exact h9.1|omega));first|done|fail):p:=h
set_option maxHeartbeats 4000000 in
set_option maxRecDepth 20000 in
theorem _root_.Go.Ab.zih_den (a0:Edition) (a1:(List Notice)) (a2:Int)  : Den Tryz.prog 12 [.agg (eEdition a0),encL 20 eNotice a1,.int .i64 a2] (.bool (zih a0 a1 a2)):=by
 generalize hR:zih a0 a1 a2=r
 unfold zih at hR
 refine y6l G_ok Tryz.func12 (by kernel_rfl) rfl Tryz.ntmps12 (by rw[Tryz.results12]) (by simp) rfl ?_
 intro c u hdp hlit hL hc hk
 obtain⟨hL0,hL1,hL2,_⟩:=hL
 have hw0:bwEdition a0:=yob a0 hL0
 have hw1:a1.length<9223372036854775808:=Nat.lt_succ_of_le (yb hL1).1
 have hw2:∀ v∈a1,bwNotice v:=fun v hv=>yg v ((yb hL1).2 v hv)
 clear hL0 hL1 hL2
 simp only[litN,lit1,litM,ymo,litR,ywq,encL,sv,Nat.zero_add,Nat.reduceAdd]at hlit
 simp only[litN,lit1,litM,ymo,encL,sv,pars,Nat.zero_add,Nat.reduceAdd]
 have hf0:=yjp a0 (1048576) (by omega) (by omega) hw0
 have hf1:=y4i a1 (ztb a0 (1048576)) (by omega) (by omega) hw1 hw2
 have hG0:decide (ztb a0 (1048576)<0)=false→ysj a0∧bdEdition a0:=fun h=>⟨hf0.2.2 (of_decide_eq_false h),y3n a0 (hf0.2.2 (of_decide_eq_false h))⟩
 have hG1:decide (zm a1 (ztb a0 (1048576))<0)=false→a1.length≤1048576∧∀ x∈a1,bdNotice x:=fun h=>⟨(hf1.2.2 (of_decide_eq_false h)).1,fun x hx=>ylg x ((hf1.2.2 (of_decide_eq_false h)).2 x hx)⟩
 refine AWP.seq ?_
 refine rB ?_
 iterate 3 refine rS ?_
 refine AWP.cond rfl (fun hb => ?_) (fun hb => ?_)
 ·replace hR:=ct hR
  refine rS ?_
  refine AWP.ret ?_
  subst hR
  exact es
 ·replace hR:=cf hR
  iterate 2 refine rS ?_
  refine AWP.cond rfl (fun hb => ?_) (fun hb => ?_)
  ·replace hR:=ct hR
   refine rS ?_
   refine AWP.ret ?_
   subst hR
   exact es
  ·replace hR:=cf hR
   iterate 5 refine rS ?_
   refine AWP.cond rfl (fun hb => ?_) (fun hb => ?_)
   ·replace hR:=ct hR
    refine rS ?_
    refine AWP.ret ?_
    subst hR
    exact es
   ·replace hR:=cf hR
    refine rZ 3 ?_
    refine AWP.cond rfl (fun hb => ?_) (fun hb => ?_)
    ·replace hR:=ct hR
     refine rS ?_
     refine AWP.ret ?_
     subst hR
     exact es
    ·replace hR:=cf hR
     refine rS ?_
     refine AWP.cond rfl (fun hb => ?_) (fun hb => ?_)
     ·replace hR:=ct hR
      refine rS ?_
      refine AWP.ret ?_
      subst hR
      exact es
     ·replace hR:=cf hR
      refine rS ?_
      refine AWP.seq ?_
      refine AWP.keepT [1,2,3,8,9,10,11,12,13,14] ?_;simp only[List.map,putL,dropL,Nat.beq_refl,cond_true,ea,absV,absVL,cput,gv,sv,dn,reduceCtorEq,reduceIte,Nat.reduceBEq,Nat.reduceAdd,Nat.reduceEqDiff,Nat.reduceLT,Nat.reduceLeDiff,Nat.reduceMul,Nat.reduceSub,BEq.rfl,beq_self_eq_true,Int.reduceToNat]
      refine rX 2 (N67.den (zn a0) 1 ot) ?_
      refine AWP.seq ?_
      refine AWP.keepT [1,2,3,8,9,11,12,13,14] ?_;simp only[List.map,putL,dropL,Nat.beq_refl,cond_true,ea,absV,absVL,cput,gv,sv,dn,reduceCtorEq,reduceIte,Nat.reduceBEq,Nat.reduceAdd,Nat.reduceEqDiff,Nat.reduceLT,Nat.reduceLeDiff,Nat.reduceMul,Nat.reduceSub,BEq.rfl,beq_self_eq_true,Int.reduceToNat]
      refine rX 2 (N19.den (zf a1) ((zcf (zn a0) 1).1) ot) ?_
      refine rS ?_
      refine AWP.cond rfl (fun hb => ?_) (fun hb => ?_)
      ·replace hR:=ct hR
       refine rS ?_
       refine AWP.ret ?_
       subst hR
       exact es
      ·replace hR:=cf hR
       refine rS ?_
       refine AWP.seq ?_
       refine AWP.keepT [1,2,3,8,9,12,15] ?_;simp only[List.map,putL,dropL,Nat.beq_refl,cond_true,ea,absV,absVL,cput,gv,sv,dn,reduceCtorEq,reduceIte,Nat.reduceBEq,Nat.reduceAdd,Nat.reduceEqDiff,Nat.reduceLT,Nat.reduceLeDiff,Nat.reduceMul,Nat.reduceSub,BEq.rfl,beq_self_eq_true,Int.reduceToNat]
       refine rX 2 (N67.den ((zqb (zn a0) (zf a1) a2).1) 1 ot) ?_
       iterate 3 refine rS ?_
       refine AWP.cond rfl (fun hb => ?_) (fun hb => ?_)
       ·replace hR:=ct hR
        refine rS ?_
        refine AWP.ret ?_
        subst hR
        exact es
       ·replace hR:=cf hR
        refine rS ?_
        refine AWP.cond rfl (fun hb => ?_) (fun hb => ?_)
        ·replace hR:=ct hR
         refine rS ?_
         refine AWP.ret ?_
         subst hR
         exact es
        ·replace hR:=cf hR
         iterate 2 refine rS ?_
         refine AWP.cond rfl (fun hb => ?_) (fun hb => ?_)
         ·exfalso;simp_all
         ·refine rS ?_
          iterate 2 refine rS ?_
          refine AWP.cond rfl (fun hb => ?_) (fun hb => ?_)
          ·exfalso;simp_all
          ·refine rS ?_
           refine AWP.cond rfl (fun hb => ?_) (fun hb => ?_)
           ·exfalso;simp_all
           ·refine rS ?_
            refine AWP.ret ?_
            subst hR
            exact es
end N12
end Go.Ab

namespace Go.Ab
open Go Go.Proofs
theorem y6w (P:Aid→Prop) (hP:∀ v,P v→aidL v) (e:Edition) (l:List Notice) (d:Int) (he:∀ v∈e.Aids,P v) (hl:∀ n∈l,P n.Aid) :
  zqb e l d=ztc e l d∧(∀ v∈(ztc e l d).1.Aids,P v)∧(ztc e l d).1.Aids.length≤24:=by
 unfold zqb ztc zbh zch
 rw[yed e.Aids (fun v h=>hP v (he v h)),yue l (fun n h=>hP _ (hl n h))]
 have e1:zrc e.Number=zd e.Number 1 9999:=rfl
 have e2:zec e.Day=znb e.Day:=rfl
 have e3:zec d=znb d:=rfl
 rw[e1,e2,e3]
 cases hc:((!((zd e.Number 1 9999 && znb e.Day) && zkb e.Aids)) || (!(zu l)))with
 | true=>exact⟨rfl,fun v hv=>by simp at hv,by simp⟩
 | false=>
  simp only[cond_false]
  rw[Bool.or_eq_false_iff,Bool.not_eq_false',Bool.not_eq_false',Bool.and_eq_true,Bool.and_eq_true]at hc
  obtain⟨⟨⟨c1,c2⟩,c3⟩,c4⟩:=hc
  cases hd:znb d with
  | false=>exact⟨rfl,fun v hv=>by simp at hv,by simp⟩
  | true=>
   simp only[Bool.not_true,cond_false]
   cases(decide (d<e.Day) || (e.Number == 9999))with
   | true=>exact⟨rfl,fun v hv=>by simp at hv,by simp⟩
   | false=>
    simp only[cond_false]
    have oa:=(yfm e.Aids).1 c3
    obtain⟨g1,g2,g3⟩:=y1u P hP e.Aids l d ⟨oa,he⟩ (yqr c4).1 hl
    have hcl:zse e.Aids l d=((zab e.Aids l d).1,(zab e.Aids l d).2.2):=by
     unfold zse
     rw[yh4 e.Aids l d (fun v h=>hP v (he v h)) (fun n h=>hP _ (hl n h))]
     have:zjh e.Aids l d=0:=by
      unfold zjh
      rw[c3,c4,hd];rfl
     rw[this,g1];rfl
    rw[hcl]
    dsimp only
    cases hz:((zab e.Aids l d).2.2 != 0)with
    | true=>exact⟨rfl,fun v hv=>by simp at hv,by simp⟩
    | false=>
     have:=g2 (by simpa using hz)
     exact⟨rfl,this.2,this.1.2.2⟩
theorem yik (a0:Edition) (a1:List Notice) (a2:Int) (hv:bwEdition a0) (hl1:a1.length<9223372036854775808) (hv1:∀ v∈a1,bwNotice v):zih a0 a1 a2=true:=by
 unfold zih
 have f0:=yjp a0 1048576 (by omega) (by omega) hv
 by_cases c0:ztb a0 1048576<0
 ·rw[decide_eq_true c0];rfl
 rw[decide_eq_false c0]
 have f1:=y4i a1 (ztb a0 1048576) (by omega) (by omega) hl1 hv1
 by_cases c1:zm a1 (ztb a0 1048576)<0
 ·rw[decide_eq_true c1];rfl
 rw[decide_eq_false c1]
 simp only[cond_false]
 obtain⟨g0,g1⟩:=f0.2.2 c0
 obtain⟨k0,k1⟩:=f1.2.2 c1
 simp only[y02,yqu,yr3,yx1]
 have hp0:∀ v∈a0.Aids,aidP v:=fun v h=>y6m (hv.2 v h) (g1 v h)
 have hp1:∀ n∈a1,aidP n.Aid:=fun n h=>y6m (hv1 n h) (k1 n h)
 obtain⟨e1,e2,e3⟩:=y6w aidP ys4 a0 a1 a2 hp0 hp1
 rw[e1]
 have hm:=ynn (ztc a0 a1 a2).1.Aids 1 (fun v h=>(e2 v h).2) (by omega) (by omega) (by omega)
 have hk:=yci a0.Aids 1 (fun v h=>(hp0 v h).2) g0 (by omega) (by omega)
 have hme:zcf a0 1=((zlb a0.Aids 1).1,{ a0 with Aids:=(zlb a0.Aids 1).2 }):=rfl
 have hk2:=yvd a1 (zlb a0.Aids 1).1 (fun v h=>(hp1 v h).2) k0 (by omega) (by omega)
 unfold zdf zcf
 dsimp only
 rw[hm.1,decide_eq_false hm.2,decide_eq_false (show ¬ (zdb a1 (zlb a0.Aids 1).1).1<0 by omega)]
 simp only[cond_false]
 rw[decide_eq_false hm.2]
 simp
end Go.Ab
