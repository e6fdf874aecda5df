/- A part of a proof: walks of functions and lemmas of our own. No conditions. -/
import Derived.Test.YtaneiddiakjgdaaGreatDoorWAl
import Derived.Test.YtaneiddiakjgdaaGreatDoorWAr
import Derived.Test.YtaneiddiakjgdaaGreatDoorWAy
import Derived.Test.YtaneiddiakjgdaaGreatDoorWAv
import Derived.Test.YtaneiddiakjgdaaGreatDoorWAw
import Derived.Test.YtaneiddiakjgdaaGreatDoorWAi
import Derived.Test.YtaneiddiakjgdaaGreatDoorWAs
import Derived.Test.YtaneiddiakjgdaaGreatDoorWAk
import Derived.Test.YtaneiddiakjgdaaGreatDoorWAo
import Derived.Test.YtaneiddiakjgdaaGreatDoorWAp
set_option linter.unusedSectionVars false
set_option linter.unusedVariables false
set_option linter.unusedSimpArgs false
set_option maxHeartbeats 1000000
namespace Go.Ab
open Go Go.Proofs
def yiq (a0:(List Aid)) (i1:Nat) (s1:Unit):Except (Bool) (Unit):=
 (bif ((!(zvb (a0.getD i1 default))) || (decide (0<(i1:Int)) && decide (((a0.getD i1 default).Number)≤((a0.getD ((IntKind.wrap .i64 ((i1:Int)-1)).toNat) default).Number))))then .error false else .ok ())
def zp (a0:(List Aid)):Bool:=
 (match yh (yiq a0) (a0.length-0) 0 ()with|.error e=>e|.ok s1=>(zbb (a0.length:Int) 24))
namespace N79
theorem DD:DOk Tryz.prog (Go.Ab.DD [(112,dP D_zbb),(93,dP D_zvb)]):=ya yjh.e <| ya y8i.e <| ye _
theorem dn:type_of% (And.intro @D_zbb.eq_1 <| @D_zvb.eq_1):=by and_intros<;>intros<;>rfl
theorem den (a0:(List Aid)) (hb0:a0.length<1099511627776) (hb1:∀ v∈a0,bdAid v):Den Tryz.prog 79 [encL 16 eAid a0] (.bool (zp a0)):=by
 generalize hR:zp a0=r
 unfold zp at hR
 refine di Tryz.func79 Tryz.ntmps79 Tryz.results79 ?_
 intro c hL hc hk
 obtain⟨hL0,_⟩:=hL
 have hw0:a0.length<9223372036854775808:=Nat.lt_succ_of_le (yb hL0).1
 have hw1:∀ v∈a0,bwAid v:=fun v hv=>yt v ((yb hL0).2 v hv)
 clear hL0
 simp only[pars,Nat.zero_add]
 iterate 2 refine rS ?_
 refine AWP.block ?_
 generalize hz1:yh (yiq a0) (a0.length-0) 0 ()=z1 at hR
 refine AWP.range (yiq a0) (fun i1 s1=>⟨[(0,encL 16 eAid a0),(5,encL 16 eAid a0),(6,.int .i64 (a0.length:Int)),(7,.int .i64 (i1:Int))],[]⟩) (fun i1 s1=>True) (a0.length) 0 () [] hz1 ot wt sm ?_
 clear hz1
 intro i1 s1 hi1 hW1 hz1
 refine rS ?_
 refine AWP.seq ?_
 refine AWP.cond rfl (fun hb => ?_) (fun hb => ?_)
 ·have hlt1:i1<a0.length:=ot
  rw[yj hlt1]at hz1;simp only[yiq]at hz1
  refine rS ?_
  refine rD 18 ?_
  refine AWP.cond rfl (fun hb => ?_) (fun hb => ?_)
  ·simp only[hb,cond_true]at hz1
   refine rS ?_
   refine AWP.ret ?_
   subst hz1
   dsimp only at hR
   subst hR
   exact es
  ·simp only[hb,cond_false]at hz1
   refine rS ?_
   exact⟨_,[],hlt1,wt,hz1,sm⟩
 ·obtain rfl:i1=a0.length:=ot
  rw[yi (Nat.le_refl _)]at hz1;subst hz1;dsimp only at hR
  refine AWP.exit ?_;refine yd ?_
  refine rS ?_
  refine AWP.ret ?_
  subst hR
  exact es
end N79
def D_zp : DF
 | [x0]=>some (.bool (zp (rdL dAid x0)),false,[wL 16 eAid dAid x0,(rdL dAid x0).length<1099511627776,∀ v∈(rdL dAid x0),bdAid v])
 | _=>none
theorem y1k:OkD Tryz.prog 79 D_zp:=by unfold D_zp;exact dk N79.den
end Go.Ab

namespace Go.Ab
open Go Go.Proofs
def zwb (a0:Aid):Bool:=
 (bif (((((!(zd a0.Number 1 9999)) || (!(zld a0.Name))) || (!(zxf a0.At))) || (!(zd a0.Height 0 3000))) || (!(zif a0.Mark)))then false else(bif (zye a0.Light)then(((a0.Sectors.length:Int) == 0) && (a0.Intensity == 0))else(bif (((!(zng a0.Light)) || (!(zd a0.Intensity 1 100000000))) || (!(zub a0.Sectors)))then false else(bif ((a0.Sectors.length:Int) == 0)then((a0.Light.Colors.length:Int) == 1)else((zfc a0.Sectors) == a0.Light.Colors)))))
namespace N87
theorem DD:DOk Tryz.prog (Go.Ab.DD [(137,dP D_zd),(148,dP D_zld),(149,dP D_zxf),(150,dP D_zif),(151,dP D_zye),(152,dP D_zng),(153,dP D_zub),(154,dP D_zfc)]):=ya y9d.e <| ya y4z.e <| ya ysx.e <| ya yq0.e <| ya yny.e <| ya y2y.e <| ya yky.e <| ya yj1.e <| ye _
theorem dn:type_of% (And.intro @D_zd.eq_1 <| And.intro @D_zld.eq_1 <| And.intro @D_zxf.eq_1 <| And.intro @D_zif.eq_1 <| And.intro @D_zye.eq_1 <| And.intro @D_zng.eq_1 <| And.intro @D_zub.eq_1 <| @D_zfc.eq_1):=by and_intros<;>intros<;>rfl
theorem ol:type_of% (@zd.eq_1):=@zd.eq_1
theorem den (a0:Aid) (hb0:bdAid a0):Den Tryz.prog 87 [.ep (eAid a0)] (.bool (zwb a0)):=by
 generalize hR:zwb a0=r
 unfold zwb at hR
 refine di Tryz.func87 Tryz.ntmps87 Tryz.results87 ?_
 intro c hL hc hk
 obtain⟨hL0,_⟩:=hL
 have hw0:bwAid a0:=yt a0 hL0
 clear hL0
 simp only[pars,Nat.zero_add]
 iterate 2 refine rS ?_
 refine AWP.cond rfl (fun hb => ?_) (fun hb => ?_)
 ·replace hR:=ct hR
  refine rS ?_
  refine AWP.ret ?_
  subst hR
  exact es
 ·replace hR:=cf hR
  refine rS ?_
  refine AWP.cond rfl (fun hb => ?_) (fun hb => ?_)
  ·replace hR:=ct hR
   refine rS ?_
   refine AWP.ret ?_
   subst hR
   exact es
  ·replace hR:=cf hR
   refine rS ?_
   refine AWP.cond rfl (fun hb => ?_) (fun hb => ?_)
   ·replace hR:=ct hR
    refine rS ?_
    refine AWP.ret ?_
    subst hR
    exact es
   ·replace hR:=cf hR
    refine rS ?_
    refine AWP.cond rfl (fun hb => ?_) (fun hb => ?_)
    ·replace hR:=ct hR
     refine rS ?_
     refine AWP.ret ?_
     subst hR
     exact es
    ·replace hR:=cf hR
     refine rD 11 ?_
     refine AWP.ret ?_
     subst hR
     exact es
end N87
def D_zwb : DF
 | [x0]=>some (.bool (zwb (rdP dAid x0)),false,[wP eAid dAid x0,bdAid (rdP dAid x0)])
 | _=>none
theorem y9r:OkD Tryz.prog 87 D_zwb:=by unfold D_zwb;exact dk N87.den
end Go.Ab

namespace Go.Ab
open Go Go.Proofs
def yai (a0:(List Aid)) (i1:Nat) (s1:Unit):Except (Bool) (Unit):=
 (bif ((!(zwb (a0.getD i1 default))) || (decide (0<(i1:Int)) && decide (((a0.getD i1 default).Number)≤((a0.getD ((IntKind.wrap .i64 ((i1:Int)-1)).toNat) default).Number))))then .error false else .ok ())
def zkb (a0:(List Aid)):Bool:=
 (match yh (yai a0) (a0.length-0) 0 ()with|.error e=>e|.ok s1=>decide ((a0.length:Int)≤24))
namespace N77
theorem DD:DOk Tryz.prog (Go.Ab.DD [(87,dP D_zwb)]):=ya y9r.e <| ye _
theorem dn:type_of% (@D_zwb.eq_1):=by and_intros<;>intros<;>rfl
theorem den (a0:(List Aid)) (hb0:a0.length<1099511627776) (hb1:∀ v∈a0,bdAid v):Den Tryz.prog 77 [encL 16 eAid a0] (.bool (zkb a0)):=by
 generalize hR:zkb a0=r
 unfold zkb at hR
 refine di Tryz.func77 Tryz.ntmps77 Tryz.results77 ?_
 intro c hL hc hk
 obtain⟨hL0,_⟩:=hL
 have hw0:a0.length<9223372036854775808:=Nat.lt_succ_of_le (yb hL0).1
 have hw1:∀ v∈a0,bwAid v:=fun v hv=>yt v ((yb hL0).2 v hv)
 clear hL0
 simp only[pars,Nat.zero_add]
 iterate 2 refine rS ?_
 refine AWP.block ?_
 generalize hz1:yh (yai a0) (a0.length-0) 0 ()=z1 at hR
 refine AWP.range (yai a0) (fun i1 s1=>⟨[(0,encL 16 eAid a0),(3,.int .i64 (i1:Int))],[]⟩) (fun i1 s1=>True) (a0.length) 0 () [] hz1 ot wt sm ?_
 clear hz1
 intro i1 s1 hi1 hW1 hz1
 refine rS ?_
 refine AWP.cond rfl (fun hb => ?_) (fun hb => ?_)
 ·have hlt1:i1<a0.length:=ot
  rw[yj hlt1]at hz1;simp only[yai]at hz1
  refine rD 23 ?_
  refine AWP.cond rfl (fun hb => ?_) (fun hb => ?_)
  ·simp only[hb,cond_true]at hz1
   refine rS ?_
   refine AWP.ret ?_
   subst hz1
   dsimp only at hR
   subst hR
   exact es
  ·simp only[hb,cond_false]at hz1
   refine rS ?_
   exact⟨_,[],hlt1,wt,hz1,sm⟩
 ·obtain rfl:i1=a0.length:=ot
  rw[yi (Nat.le_refl _)]at hz1;subst hz1;dsimp only at hR
  refine AWP.exit ?_;refine yd ?_
  refine rS ?_
  refine AWP.ret ?_
  subst hR
  exact es
end N77
def D_zkb : DF
 | [x0]=>some (.bool (zkb (rdL dAid x0)),false,[wL 16 eAid dAid x0,(rdL dAid x0).length<1099511627776,∀ v∈(rdL dAid x0),bdAid v])
 | _=>none
theorem ywz:OkD Tryz.prog 77 D_zkb:=by unfold D_zkb;exact dk N77.den
end Go.Ab

namespace Go.Ab
open Go Go.Proofs
theorem y5w (c:Character) (h:zye c=true):zzf c=false:=by
 unfold zye at h
 simp only[Bool.and_eq_true,beq_iff_eq]at h
 obtain⟨⟨⟨⟨h1,h2⟩,h3⟩,h4⟩,h5⟩:=h
 cases c
 simp only at h1 h2 h3 h4 h5
 rename_i k g l cs p
 have hg:g=[]:=List.length_eq_zero_iff.1 (by omega)
 subst h1 hg h3 h4 h5
 decide
theorem y8z (a:Aid):zeg a=((zye a.Light && ((a.Sectors.length:Int) == 0)) && (a.Intensity == 0)):=by
 unfold zeg zke zye
 rw[y2k]
 have:decide (a.Light.Group=[])=((a.Light.Group.length:Int) == 0):=by
  cases a.Light.Group with
  | nil=>rfl
  | cons x l=>simp;omega
 rw[this]
theorem y2e (a:Aid) (hl:a.Light.Colors.length<9223372036854775808) (hs:a.Sectors.length<9223372036854775807):zvb a=zwb a:=by
 unfold zvb zwb
 rw[y8z]
 unfold zah
 rw[y5j a.Sectors hs,yun,ybo,y52]
 have e1:zrc a.Number=zd a.Number 1 9999:=rfl
 have e2:zqg a.At=zxf a.At:=rfl
 have e3:zrg a.Height=zd a.Height 0 3000:=rfl
 have e4:zsg a.Intensity=zd a.Intensity 1 100000000:=rfl
 rw[e1,e2,e3,e4]
 cases hp:zye a.Light with
 | true=>
  rw[y5w _ hp]
  simp only[Bool.not_false,Bool.true_or,cond_true,Bool.true_and,Bool.false_or]
  cases zd a.Number 1 9999<;>cases zld a.Name<;>cases zxf a.At<;>cases zd a.Height 0 3000<;>cases zif a.Mark<;>rfl
 | false=>
  rw[yg0 a.Light hl]
  simp only[Bool.false_and,Bool.or_false,cond_false]
  cases zd a.Number 1 9999<;>cases zld a.Name<;>cases zxf a.At<;>cases zd a.Height 0 3000<;>cases zif a.Mark<;>rfl
theorem yed (l:List Aid) (h:∀ v∈l,v.Light.Colors.length<9223372036854775808∧v.Sectors.length<9223372036854775807):zp l=zkb l:=by
 unfold zp zkb
 rw[yml (b:=yiq l) (b':=yai l) (l.length-0) 0 () (fun j u _ hj=>by
  have:=yfd (p:=fun v:Aid=>v.Light.Colors.length<9223372036854775808∧v.Sectors.length<9223372036854775807) h ⟨by decide,by decide⟩ j
  simp only[yiq,yai,y2e _ this.1 this.2])]
 rfl
end Go.Ab

namespace Go.Ab
open Go Go.Proofs
theorem y2v {a:List Aid} (h:zkb a=true):a.length≤24:=by
 unfold zkb at h
 split at h
 ·rename_i e he
  obtain⟨j,t,_,_,h3⟩:=yfc he
  simp only[yai,Bool.cond_eq_ite]at h3
  split at h3
  ·cases h3;cases h
  ·cases h3
 ·have:=of_decide_eq_true h;omega
theorem yxc {a:List Aid} (h:zp a=true):a.length≤24:=by
 unfold zp at h
 split at h
 ·rename_i e he
  obtain⟨j,t,_,_,h3⟩:=yfc he
  simp only[yiq,Bool.cond_eq_ite]at h3
  split at h3
  ·cases h3;cases h
  ·cases h3
 ·unfold zbb at h;have:=of_decide_eq_true h;omega
end Go.Ab

namespace Go.Ab
open Go Go.Proofs
theorem yvi {ρ α:Type} [Inhabited α] (l:List α) (b:Nat→List α→Except ρ (List α)) (hb:∀ i s,b i s=.ok (s++[l.getD i default])):yh b (l.length-0) 0 ([]:List α)=.ok l:=by
 obtain⟨t,h1,h2⟩:=yib (b:=b) (fun i s=>s=l.take i) (k:=l.length-0) (i:=0) (s:=[]) (by simp) (by
  intro j u _ hj h
  subst h
  exact⟨_,hb j _,(y6k l j (by omega)).symm⟩)
 rw[h1,h2]
 simp
theorem ykd (a:Aid):zic a=a:=by simp[zic,ztg,zug]
theorem ycb (l:List Aid):zx l=l:=by
 unfold zx
 rw[show(List.replicate 0 (default:Aid))=[]from rfl,yvi l (yeu l) (fun i s=>by simp only[yeu,ykd])]
theorem yge (a:Aid):zkc a=a:=by simp[zkc,zzg,zyg]
theorem yeb (l:List Aid):zt l=l:=by
 unfold zt
 rw[yvi l (ynu l) (fun i s=>by simp only[ynu,yge])]
end Go.Ab

namespace Go.Ab
open Go Go.Proofs
def zvd (a0:(List Aid)) (a1:Aid):((List Aid)×Int):=
 (bif ((!(zp a0)) || (!(zvb a1)))then([],1)else(bif (zh a0 a1.Number).2 then([],4)else(bif ((a0.length:Int) == 24)then([],5)else(((zff (zx a0) ((zh a0 a1.Number).1) [zic a1])),0))))
namespace N34
theorem DD:DOk Tryz.prog (Go.Ab.DD [(79,dP D_zp),(81,dP D_zic),(93,dP D_zvb),(94,dP D_zh),(95,dM [true,false,true] D_zff),(96,dP D_zx)]):=ya y1k.e <| ya ywi.e <| ya y8i.e <| ya y7q.e <| ya yox.e <| ya yim.e <| ye _
theorem dn:type_of% (And.intro @D_zp.eq_1 <| And.intro @D_zic.eq_1 <| And.intro @D_zvb.eq_1 <| And.intro @D_zh.eq_1 <| And.intro @D_zff.eq_1 <| @D_zx.eq_1):=by and_intros<;>intros<;>rfl
theorem ol:type_of% (@ycb):=@ycb
theorem gr {p:Prop} (h:p:=by(grind [yxc,y2q]);first|done|fail):p:=h
theorem o1 {p:Prop} (h:p:=by(first|(have h9:=yxc (a:=a0) (by simp_all);simp only[ob,ln,ol]at *;omega));first|done|fail):p:=h
theorem den (a0:(List Aid)) (a1:Aid) (hb0:a0.length<1099511627776) (hb1:∀ v∈a0,bdAid v) (hb2:bdAid a1):Den Tryz.prog 34 [encL 16 eAid a0,.agg (eAid a1)] (.tup [ownL 63 16 ygb ((zvd a0 a1).1),.int .i64 ((zvd a0 a1).2)]):=by
 generalize hR:zvd a0 a1=r
 unfold zvd at hR
 refine di Tryz.func34 Tryz.ntmps34 Tryz.results34 ?_
 intro c hL hc hk
 obtain⟨hL0,hL1,_⟩:=hL
 have hw0:a0.length<9223372036854775808:=Nat.lt_succ_of_le (yb hL0).1
 have hw1:∀ v∈a0,bwAid v:=fun v hv=>yt v ((yb hL0).2 v hv)
 have hw2:bwAid a1:=yt a1 hL1
 clear hL0 hL1
 simp only[pars,Nat.zero_add]
 have hix:=y2q a0 a1.Number hw0
 iterate 2 refine rS ?_
 refine AWP.cond rfl (fun hb => ?_) (fun hb => ?_)
 ·replace hR:=ct hR
  refine rS ?_
  refine AWP.ret ?_
  subst hR
  exact es
 ·replace hR:=cf hR
  iterate 2 refine rS ?_
  refine AWP.cond rfl (fun hb => ?_) (fun hb => ?_)
  ·replace hR:=ct hR
   refine rS ?_
   refine AWP.ret ?_
   subst hR
   exact es
  ·replace hR:=cf hR
   refine rS ?_
   refine AWP.cond rfl (fun hb => ?_) (fun hb => ?_)
   ·replace hR:=ct hR
    refine rS ?_
    refine AWP.ret ?_
    subst hR
    exact es
   ·replace hR:=cf hR
    refine AWP.skip ?_
    refine AWP.seq ?_
    refine AWP.regP mixed G_ok DD hc 6 [0,2,3] (.alt 1 [] [2,3] (.alt 4 [] [2] (.alt 5 [] [2] .leaf .stop) .stop) .stop) (by kernel_rfl) (by kernel_rfl) (by kernel_rfl) (fun K hK => ?_);simp only[yqi,runN,runP,yrc,nthO,ea,absV,absVL,cput,gv,sv,dn,reduceCtorEq,reduceIte,Nat.reduceBEq,Nat.reduceAdd,Nat.reduceEqDiff,Nat.reduceLT,Nat.reduceLeDiff,Nat.reduceMul,Nat.reduceSub,BEq.rfl,beq_self_eq_true,Int.reduceToNat]
    repeat' apply And.intro
    all_goals first|refine hK _ ?_|exact ot
    all_goals clear hK K
    refine AWP.ret ?_
    subst hR
    exact es
end N34
def D_zvd : DF
 | [x0,x1]=>some (.tup [ownL 63 16 ygb ((zvd (rdL dAid x0) (rdG dAid x1)).1),.int .i64 ((zvd (rdL dAid x0) (rdG dAid x1)).2)],false,[wL 16 eAid dAid x0,wG eAid dAid x1,(rdL dAid x0).length<1099511627776,∀ v∈(rdL dAid x0),bdAid v,bdAid (rdG dAid x1)])
 | _=>none
theorem yzz:OkD Tryz.prog 34 D_zvd:=by unfold D_zvd;exact dk N34.den
end Go.Ab

namespace Go.Ab
open Go Go.Proofs
def yll (a0:(List Aid)) (a1:Aid) (s1:Int):Except (Sum (((List Aid)×Int)) (Int)) (Int):=
 (bif (decide (s1<(a0.length:Int)) && decide (((a0.getD ((s1).toNat) default).Number)<a1.Number))then .ok (IntKind.wrap .i64 (s1+1))else .error (.inr s1))
def zob (a0:(List Aid)) (a1:Aid):((List Aid)×Int):=
 (match yyd (yll a0 a1) ((a0.length-((0:Int)).toNat)+1) 0 with|.error (.inl e)=>e|.error (.inr s1)=>(bif (decide (s1<(a0.length:Int)) && (((a0.getD ((s1).toNat) default).Number) == a1.Number))then([],4)else(bif ((a0.length:Int) == 24)then([],5)else(((zt (subL a0 0 ((s1).toNat)))++[zkc a1])++(zt (subL a0 ((s1).toNat) (a0.length-(s1).toNat))),0)))|.ok _=>default)
namespace N88
theorem DD:DOk Tryz.prog (Go.Ab.DD [(106,dP D_zkc),(155,dP D_zt)]):=ya y2i.e <| ya yom.e <| ye _
theorem dn:type_of% (And.intro @D_zkc.eq_1 <| @D_zt.eq_1):=by and_intros<;>intros<;>rfl
theorem ol:type_of% (@yeb):=@yeb
theorem den (a0:(List Aid)) (a1:Aid) (hb0:a0.length<1099511627776) (hb1:∀ v∈a0,bdAid v) (hb2:bdAid a1) (hp0:a0.length≤1073741824):Den Tryz.prog 88 [encL 16 eAid a0,.ep (eAid a1)] (.tup [ownL 63 16 ygb ((zob a0 a1).1),.int .i64 ((zob a0 a1).2)]):=by
 generalize hR:zob a0 a1=r
 unfold zob at hR
 refine di Tryz.func88 Tryz.ntmps88 Tryz.results88 ?_
 intro c hL hc hk
 obtain⟨hL0,hL1,_⟩:=hL
 have hw0:a0.length<9223372036854775808:=Nat.lt_succ_of_le (yb hL0).1
 have hw1:∀ v∈a0,bwAid v:=fun v hv=>yt v ((yb hL0).2 v hv)
 have hw2:bwAid a1:=yt a1 hL1
 clear hL0 hL1
 simp only[pars,Nat.zero_add]
 iterate 2 refine rS ?_
 refine AWP.seq ?_
 refine AWP.block ?_
 generalize hz1:yyd (yll a0 a1) ((a0.length-((0:Int)).toNat)+1) 0=z1 at hR
 refine AWP.whileW (yll a0 a1) (fun s1=>⟨[(0,encL 16 eAid a0),(1,.ep (eAid a1)),(6,.int .i64 s1)],[]⟩) (fun s1=>0≤s1∧s1≤a0.length) (fun s1=>a0.length-(s1).toNat) ((a0.length-((0:Int)).toNat)+1) 0 [] hz1 m0 wt sm ?_
 clear hz1
 intro s1 k1 hW1 hm1 hz1
 simp only[yll]at hz1
 refine rD 16 ?_
 refine AWP.cond rfl (fun hb => ?_) (fun hb => ?_)
 ·simp only[hb,cond_true]at hz1
  refine rS ?_
  exact⟨_,[],ms,wt,hz1,sm⟩
 ·simp only[hb,cond_false]at hz1
  refine AWP.exit ?_
  refine yd ?_
  subst hz1;dsimp only at hR
  refine rD 16 ?_
  refine AWP.cond rfl (fun hb => ?_) (fun hb => ?_)
  ·replace hR:=ct hR
   refine rS ?_
   refine AWP.ret ?_
   subst hR
   exact es
  ·replace hR:=cf hR
   refine rS ?_
   refine AWP.cond rfl (fun hb => ?_) (fun hb => ?_)
   ·replace hR:=ct hR
    refine rS ?_
    refine AWP.ret ?_
    subst hR
    exact es
   ·replace hR:=cf hR
    iterate 3 refine rS ?_
    refine AWP.ret ?_
    subst hR
    exact es
end N88
def D_zob : DF
 | [x0,x1]=>some (.tup [ownL 63 16 ygb ((zob (rdL dAid x0) (rdP dAid x1)).1),.int .i64 ((zob (rdL dAid x0) (rdP dAid x1)).2)],false,[wL 16 eAid dAid x0,wP eAid dAid x1,(rdL dAid x0).length<1099511627776,∀ v∈(rdL dAid x0),bdAid v,bdAid (rdP dAid x1),(rdL dAid x0).length≤1073741824])
 | _=>none
theorem yn0:OkD Tryz.prog 88 D_zob:=by unfold D_zob;exact dk N88.den
end Go.Ab

namespace Go.Ab
open Go Go.Proofs
def zkh (a0:(List Aid)) (a1:Aid):((List Aid)×Int):=
 (bif ((!(zkb a0)) || (!(zwb a1)))then([],1)else((zob a0 a1).1,(zob a0 a1).2))
end Go.Ab

namespace Go.Ab
open Go Go.Proofs
def aidL (v:Aid):Prop:=v.Light.Colors.length<9223372036854775808∧v.Sectors.length<9223372036854775807
theorem ykf {α:Type} [Inhabited α] (l:List α) (n:Nat) (h:n≤l.length):subL l 0 n=l.take n:=by
 apply yah
 ·simp[subL,h]
 ·intro i hi
  have hi:i<n:=by simpa [subL]using hi
  simp only[subL,Nat.zero_add]
  rw[List.getD_eq_getElem?_getD,List.getD_eq_getElem?_getD,List.getElem?_map,List.getElem?_range hi,List.getElem?_take,if_pos hi]
  simp[List.getD_eq_getElem?_getD]
theorem yxg {α:Type} [Inhabited α] (l:List α) (n:Nat) (h:n≤l.length):subL l n (l.length-n)=l.drop n:=by
 apply yah
 ·simp[subL]
 ·intro i hi
  have hi:i<l.length-n:=by simpa [subL]using hi
  simp only[subL]
  rw[List.getD_eq_getElem?_getD,List.getD_eq_getElem?_getD,List.getElem?_map,List.getElem?_range hi,List.getElem?_drop]
  simp[List.getD_eq_getElem?_getD]
theorem y0y (l:List Aid) (a:Aid) (hl:l.length<9223372036854775808):yyd (yll l a) ((l.length-((0:Int)).toNat)+1) 0=.error (.inr (upto l a.Number:Int)):=by
 have:=y6q l a.Number hl (yll l a) (fun s=>rfl) l [] (l.length-(0:Int).toNat+1) rfl (by simp)
 simp only[List.length_nil,Nat.zero_add]at this
 have e0:((0:Nat):Int)=0:=rfl
 simp only[e0]at this
 exact this
def putA (l:List Aid) (a:Aid):List Aid:=l.take (upto l a.Number)++[a]++l.drop (upto l a.Number)
theorem yck (l:List Aid) (a:Aid) (hl:l.length<9223372036854775808) :
  zob l a=bif (decide (upto l a.Number<l.length) && ((l.getD (upto l a.Number) default).Number == a.Number))then([],4)else(bif ((l.length:Int) == 24)then([],5)else(putA l a,0)):=by
 unfold zob
 rw[y0y l a hl]
 have hu:=ybn l a.Number
 have e:(decide ((upto l a.Number:Int)<(l.length:Int)) && ((l.getD ((upto l a.Number:Int)).toNat default).Number == a.Number))=(decide (upto l a.Number<l.length) && ((l.getD (upto l a.Number) default).Number == a.Number)):=by
  rw[Int.toNat_natCast]
  congr 1
  exact decide_eq_decide.2 (by omega)
 simp only[yeb,yge]
 rw[e]
 simp only[Int.toNat_natCast]
 rw[ykf l _ hu,yxg l _ hu]
 rfl
theorem yiw (l:List Aid) (a:Aid) (hl:l.length<9223372036854775808) (hv:∀ v∈l,aidL v) (ha:aidL a):zvd l a=zkh l a:=by
 unfold zvd zkh
 rw[yed l hv,y2e a ha.1 ha.2]
 cases hb:((!(zkb l)) || (!(zwb a)))with
 | true=>rfl
 | false=>
  simp only[cond_false]
  rw[yck l a hl,yan l _ hl]
  simp only[ycb,ykd]
  unfold zff
  simp only[Int.toNat_natCast]
  cases(decide (upto l a.Number<l.length) && ((l.getD (upto l a.Number) default).Number == a.Number))with
  | true=>rfl
  | false=>
   simp only[cond_false]
   cases((l.length:Int) == 24)<;>rfl
end Go.Ab


namespace Go.Ab
open Go Go.Proofs
def zfe (a0:(List Aid)) (a1:Aid):((List Aid)×Int):=
 (bif ((!(zp a0)) || (!(zvb a1)))then([],1)else(bif (!((zh a0 a1.Number).2))then([],3)else((zx a0).set (((zh a0 a1.Number).1).toNat) (zic a1),0)))
namespace N183
theorem DD:DOk Tryz.prog (Go.Ab.DD [(79,dP D_zp),(81,dP D_zic),(93,dP D_zvb),(94,dP D_zh),(96,dP D_zx)]):=ya y1k.e <| ya ywi.e <| ya y8i.e <| ya y7q.e <| ya yim.e <| ye _
theorem dn:type_of% (And.intro @D_zp.eq_1 <| And.intro @D_zic.eq_1 <| And.intro @D_zvb.eq_1 <| And.intro @D_zh.eq_1 <| @D_zx.eq_1):=by and_intros<;>intros<;>rfl
theorem ol:type_of% (@ycb):=@ycb
theorem gr {p:Prop} (h:p:=by(grind [yxc,y2q]);first|done|fail):p:=h
theorem den (a0:(List Aid)) (a1:Aid) (hb0:a0.length<1099511627776) (hb1:∀ v∈a0,bdAid v) (hb2:bdAid a1):Den Tryz.prog 183 [encL 16 eAid a0,.agg (eAid a1)] (.tup [ownL 63 16 ygb ((zfe a0 a1).1),.int .i64 ((zfe a0 a1).2)]):=by
 generalize hR:zfe a0 a1=r
 unfold zfe at hR
 refine di Tryz.func183 Tryz.ntmps183 Tryz.results183 ?_
 intro c hL hc hk
 obtain⟨hL0,hL1,_⟩:=hL
 have hw0:a0.length<9223372036854775808:=Nat.lt_succ_of_le (yb hL0).1
 have hw1:∀ v∈a0,bwAid v:=fun v hv=>yt v ((yb hL0).2 v hv)
 have hw2:bwAid a1:=yt a1 hL1
 clear hL0 hL1
 simp only[pars,Nat.zero_add]
 have hix:=y2q a0 a1.Number hw0
 iterate 2 refine rS ?_
 refine AWP.cond rfl (fun hb => ?_) (fun hb => ?_)
 ·replace hR:=ct hR
  refine rS ?_
  refine AWP.ret ?_
  subst hR
  exact es
 ·replace hR:=cf hR
  iterate 2 refine rS ?_
  refine AWP.cond rfl (fun hb => ?_) (fun hb => ?_)
  ·replace hR:=ct hR
   refine rS ?_
   refine AWP.ret ?_
   subst hR
   exact es
  ·replace hR:=cf hR
   iterate 3 refine rS ?_
   refine AWP.ret ?_
   subst hR
   exact es
end N183
def D_zfe : DF
 | [x0,x1]=>some (.tup [ownL 63 16 ygb ((zfe (rdL dAid x0) (rdG dAid x1)).1),.int .i64 ((zfe (rdL dAid x0) (rdG dAid x1)).2)],false,[wL 16 eAid dAid x0,wG eAid dAid x1,(rdL dAid x0).length<1099511627776,∀ v∈(rdL dAid x0),bdAid v,bdAid (rdG dAid x1)])
 | _=>none
theorem ymy:OkD Tryz.prog 183 D_zfe:=by unfold D_zfe;exact dk N183.den
end Go.Ab

namespace Go.Ab
open Go Go.Proofs
def zge (a0:(List Aid)) (a1:Int):((List Aid)×Int):=
 (bif (!(zp a0))then([],1)else(bif (!((zh a0 a1).2))then([],3)else(((zgf (zx a0) ((zh a0 a1).1) (IntKind.wrap .i64 (((zh a0 a1).1)+1)))),0)))
namespace N184
theorem DD:DOk Tryz.prog (Go.Ab.DD [(218,dM [true,false,false] D_zgf),(79,dP D_zp),(94,dP D_zh),(96,dP D_zx)]):=ya yh1.e <| ya y1k.e <| ya y7q.e <| ya yim.e <| ye _
theorem dn:type_of% (And.intro @D_zgf.eq_1 <| And.intro @D_zp.eq_1 <| And.intro @D_zh.eq_1 <| @D_zx.eq_1):=by and_intros<;>intros<;>rfl
theorem ol:type_of% (@ycb):=@ycb
theorem gr {p:Prop} (h:p:=by(grind [yxc,y2q]);first|done|fail):p:=h
theorem den (a0:(List Aid)) (a1:Int) (hb0:a0.length<1099511627776) (hb1:∀ v∈a0,bdAid v):Den Tryz.prog 184 [encL 16 eAid a0,.int .i64 a1] (.tup [ownL 63 16 ygb ((zge a0 a1).1),.int .i64 ((zge a0 a1).2)]):=by
 generalize hR:zge a0 a1=r
 unfold zge at hR
 refine di Tryz.func184 Tryz.ntmps184 Tryz.results184 ?_
 intro c hL hc hk
 obtain⟨hL0,hL1,_⟩:=hL
 have hw0:a0.length<9223372036854775808:=Nat.lt_succ_of_le (yb hL0).1
 have hw1:∀ v∈a0,bwAid v:=fun v hv=>yt v ((yb hL0).2 v hv)
 clear hL0 hL1
 simp only[pars,Nat.zero_add]
 have hix:=y2q a0 a1 hw0
 iterate 2 refine rS ?_
 refine AWP.cond rfl (fun hb => ?_) (fun hb => ?_)
 ·replace hR:=ct hR
  refine rS ?_
  refine AWP.ret ?_
  subst hR
  exact es
 ·replace hR:=cf hR
  iterate 2 refine rS ?_
  refine AWP.cond rfl (fun hb => ?_) (fun hb => ?_)
  ·replace hR:=ct hR
   refine rS ?_
   refine AWP.ret ?_
   subst hR
   exact es
  ·replace hR:=cf hR
   refine rS ?_
   refine AWP.ret ?_
   subst hR
   exact es
end N184
def D_zge : DF
 | [x0,x1]=>some (.tup [ownL 63 16 ygb ((zge (rdL dAid x0) (rdI x1)).1),.int .i64 ((zge (rdL dAid x0) (rdI x1)).2)],false,[wL 16 eAid dAid x0,wI .i64 x1,(rdL dAid x0).length<1099511627776,∀ v∈(rdL dAid x0),bdAid v])
 | _=>none
theorem y3x:OkD Tryz.prog 184 D_zge:=by unfold D_zge;exact dk N184.den
end Go.Ab

namespace Go.Ab
open Go Go.Proofs
def zod (a0:(List Aid)) (a1:Aid):((List Aid)×Int):=
 (bif decide ((zq a0 a1.Number)<0)then([],3)else((zt a0).set (((zq a0 a1.Number)).toNat) (zkc a1),0))
namespace N216
theorem DD:DOk Tryz.prog (Go.Ab.DD [(106,dP D_zkc),(142,dP D_zq),(155,dP D_zt)]):=ya y2i.e <| ya ywv.e <| ya yom.e <| ye _
theorem dn:type_of% (And.intro @D_zkc.eq_1 <| And.intro @D_zq.eq_1 <| @D_zt.eq_1):=by and_intros<;>intros<;>rfl
theorem ol:type_of% (@yeb):=@yeb
theorem gr {p:Prop} (h:p:=by(grind [yew]);first|done|fail):p:=h
theorem den (a0:(List Aid)) (a1:Aid) (hb0:a0.length<1099511627776) (hb1:∀ v∈a0,bdAid v) (hb2:bdAid a1) (hp0:a0.length≤1073741824):Den Tryz.prog 216 [encL 16 eAid a0,.ep (eAid a1)] (.tup [ownL 63 16 ygb ((zod a0 a1).1),.int .i64 ((zod a0 a1).2)]):=by
 generalize hR:zod a0 a1=r
 unfold zod at hR
 refine di Tryz.func216 Tryz.ntmps216 Tryz.results216 ?_
 intro c hL hc hk
 obtain⟨hL0,hL1,_⟩:=hL
 have hw0:a0.length<9223372036854775808:=Nat.lt_succ_of_le (yb hL0).1
 have hw1:∀ v∈a0,bwAid v:=fun v hv=>yt v ((yb hL0).2 v hv)
 have hw2:bwAid a1:=yt a1 hL1
 clear hL0 hL1
 simp only[pars,Nat.zero_add]
 have hix:=yew a0 a1.Number
 iterate 3 refine rS ?_
 refine AWP.cond rfl (fun hb => ?_) (fun hb => ?_)
 ·replace hR:=ct hR
  refine rS ?_
  refine AWP.ret ?_
  subst hR
  exact es
 ·replace hR:=cf hR
  iterate 3 refine rS ?_
  refine AWP.ret ?_
  subst hR
  exact es
end N216
def D_zod : DF
 | [x0,x1]=>some (.tup [ownL 63 16 ygb ((zod (rdL dAid x0) (rdP dAid x1)).1),.int .i64 ((zod (rdL dAid x0) (rdP dAid x1)).2)],false,[wL 16 eAid dAid x0,wP eAid dAid x1,(rdL dAid x0).length<1099511627776,∀ v∈(rdL dAid x0),bdAid v,bdAid (rdP dAid x1),(rdL dAid x0).length≤1073741824])
 | _=>none
theorem ya0:OkD Tryz.prog 216 D_zod:=by unfold D_zod;exact dk N216.den
end Go.Ab

namespace Go.Ab
open Go Go.Proofs
def zpd (a0:(List Aid)) (a1:Int):((List Aid)×Int):=
 (bif decide ((zq a0 a1)<0)then([],3)else((zt (subL a0 0 (((zq a0 a1)).toNat)))++(zt (subL a0 ((IntKind.wrap .i64 ((zq a0 a1)+1)).toNat) (a0.length-(IntKind.wrap .i64 ((zq a0 a1)+1)).toNat))),0))
namespace N217
theorem DD:DOk Tryz.prog (Go.Ab.DD [(142,dP D_zq),(155,dP D_zt)]):=ya ywv.e <| ya yom.e <| ye _
theorem dn:type_of% (And.intro @D_zq.eq_1 <| @D_zt.eq_1):=by and_intros<;>intros<;>rfl
theorem ol:type_of% (@yeb):=@yeb
theorem gr {p:Prop} (h:p:=by(grind [yew]);first|done|fail):p:=h
theorem den (a0:(List Aid)) (a1:Int) (hb0:a0.length<1099511627776) (hb1:∀ v∈a0,bdAid v) (hp0:a0.length≤1073741824):Den Tryz.prog 217 [encL 16 eAid a0,.int .i64 a1] (.tup [ownL 63 16 ygb ((zpd a0 a1).1),.int .i64 ((zpd a0 a1).2)]):=by
 generalize hR:zpd a0 a1=r
 unfold zpd at hR
 refine di Tryz.func217 Tryz.ntmps217 Tryz.results217 ?_
 intro c hL hc hk
 obtain⟨hL0,hL1,_⟩:=hL
 have hw0:a0.length<9223372036854775808:=Nat.lt_succ_of_le (yb hL0).1
 have hw1:∀ v∈a0,bwAid v:=fun v hv=>yt v ((yb hL0).2 v hv)
 clear hL0 hL1
 simp only[pars,Nat.zero_add]
 have hix:=yew a0 a1
 iterate 3 refine rS ?_
 refine AWP.cond rfl (fun hb => ?_) (fun hb => ?_)
 ·replace hR:=ct hR
  refine rS ?_
  refine AWP.ret ?_
  subst hR
  exact es
 ·replace hR:=cf hR
  iterate 2 refine rS ?_
  refine AWP.ret ?_
  subst hR
  exact es
end N217
def D_zpd : DF
 | [x0,x1]=>some (.tup [ownL 63 16 ygb ((zpd (rdL dAid x0) (rdI x1)).1),.int .i64 ((zpd (rdL dAid x0) (rdI x1)).2)],false,[wL 16 eAid dAid x0,wI .i64 x1,(rdL dAid x0).length<1099511627776,∀ v∈(rdL dAid x0),bdAid v,(rdL dAid x0).length≤1073741824])
 | _=>none
theorem yoy:OkD Tryz.prog 217 D_zpd:=by unfold D_zpd;exact dk N217.den
end Go.Ab

namespace Go.Ab
open Go Go.Proofs
def ltA (a b:Aid):Prop:=a.Number<b.Number
theorem y5p (a b c:Aid) (h:ltA a b) (k:ltA b c):ltA a c:=by unfold ltA at *;omega
def okA (l:List Aid):Prop:=(∀ v∈l,zwb v=true)∧l.Pairwise ltA∧l.length≤24
theorem yfm (l:List Aid):zkb l=true↔okA l:=by
 unfold zkb
 refine Iff.trans (yil (b:=yai l) (fun j=>(!(zwb (l.getD j default))) || (decide (0<(j:Int)) && decide (((l.getD j default).Number)≤((l.getD ((IntKind.wrap .i64 ((j:Int)-1)).toNat) default).Number)))) l.length _ (fun j u _=>rfl)) ?_
 unfold okA
 rw[y71 ltA y5p l,decide_eq_true_eq]
 have e:∀ j:Nat,0<j→j<l.length→l.length<9223372036854775808→(IntKind.wrap .i64 ((j:Int)-1)).toNat=j-1:=by
  intro j h0 h1 h2
  rw[IntKind.wrap_i64];omega
 constructor
 ·rintro⟨h1,h2⟩
  have h2':l.length≤24:=by omega
  refine⟨fun v hv => ?_,fun j hj => ?_,h2'⟩
  ·obtain⟨j,hj,rfl⟩:=List.getElem_of_mem hv
   have:=h1 j hj
   rw[Bool.or_eq_false_iff]at this
   have h3:=this.1
   rw[List.getD_eq_getElem?_getD,List.getElem?_eq_getElem hj]at h3
   simpa using h3
  ·have:=h1 (j+1) hj
   rw[Bool.or_eq_false_iff,e (j+1) (by omega) hj (by omega)]at this
   have h3:=this.2
   simp only[Nat.add_sub_cancel]at h3
   unfold ltA
   simp only[Bool.and_eq_false_iff,decide_eq_false_iff_not]at h3
   rcases h3 with h3|h3<;>omega
 ·rintro⟨h1,h2,h3⟩
  refine⟨fun j hj => ?_,by omega⟩
  rw[Bool.or_eq_false_iff]
  constructor
  ·have:l.getD j default∈l:=by
    rw[List.getD_eq_getElem?_getD,List.getElem?_eq_getElem hj]
    exact List.getElem_mem hj
   rw[h1 _ this];rfl
  ·cases j with
   | zero=>simp
   | succ j=>
    rw[e (j+1) (by omega) hj (by omega)]
    have:=h2 j hj
    unfold ltA at this
    simp only[Nat.add_sub_cancel,Bool.and_eq_false_iff,decide_eq_false_iff_not]
    right;omega
theorem ybv (l:List Aid) (n:Int):∀ j,j<upto l n→(l.getD j default).Number<n:=by
 unfold upto
 induction l with
 | nil=>intro j hj;simp at hj
 | cons x l ih=>
  intro j hj
  rw[List.takeWhile_cons]at hj
  by_cases h:x.Number<n
  ·rw[if_pos (decide_eq_true h)]at hj
   cases j with
   | zero=>exact h
   | succ j=>exact ih j (by simpa using hj)
  ·rw[if_neg (by simpa using h)]at hj
   simp at hj
theorem yhx (l:List Aid) (n:Int):upto l n<l.length→¬ (l.getD (upto l n) default).Number<n:=by
 unfold upto
 induction l with
 | nil=>intro h;simp at h
 | cons x l ih=>
  intro hj
  rw[List.takeWhile_cons]at hj ⊢
  by_cases h:x.Number<n
  ·rw[if_pos (decide_eq_true h)]at hj ⊢
   exact ih (by simpa using hj)
  ·rw[if_neg (by simpa using h)]
   exact h
theorem yp2 (l:List Aid) (n:Int) (j:Nat) (hj:j≤l.length) (h1:∀ q,q<j→(l.getD q default).Number<n) (h2:j<l.length→¬ (l.getD j default).Number<n):upto l n=j:=by
 have hu:=ybn l n
 rcases Nat.lt_trichotomy (upto l n) j with h|h|h
 ·exact absurd (h1 _ h) (yhx l n (by omega))
 ·exact h
 ·exact absurd (ybv l n j h) (h2 (by omega))
theorem ycr {l:List Aid} (h:l.Pairwise ltA) {i j:Nat} (hij:i<j) (hj:j<l.length):(l.getD i default).Number<(l.getD j default).Number:=by
 have:=List.pairwise_iff_getElem.1 h i j (by omega) hj hij
 rw[List.getD_eq_getElem?_getD,List.getD_eq_getElem?_getD,List.getElem?_eq_getElem hj,List.getElem?_eq_getElem (show i<l.length by omega)]
 exact this
def hasN (l:List Aid) (n:Int):Bool:=decide (upto l n<l.length) && ((l.getD (upto l n) default).Number == n)
theorem y9m (l:List Aid) (n:Int) (h:l.Pairwise ltA):zq l n=bif hasN l n then(upto l n:Int)else -1:=by
 rcases ydl l n with⟨j,h1,h2,h3,h4⟩|⟨h1,h2⟩
 ·have e:upto l n=j:=yp2 l n j (by omega) (fun q hq=>by rw[← h2];exact ycr h hq h1) (fun _=>by omega)
  have:hasN l n=true:=by
   unfold hasN
   rw[e,h2]
   simp[h1]
  rw[this,h4,e];rfl
 ·have:hasN l n=false:=by
   unfold hasN
   cases hd:decide (upto l n<l.length)with
   | false=>rfl
   | true=>
    have:=h1 _ (of_decide_eq_true hd)
    simpa using this
  rw[this,h2];rfl
theorem ytq {l:List Aid} {n:Int} (h:hasN l n=true):upto l n<l.length∧(l.getD (upto l n) default).Number=n:=by
 unfold hasN at h
 simpa using h
theorem yrp (l:List Aid) (n:Int) (hl:l.length<9223372036854775808):zh l n=((upto l n:Int),hasN l n):=yan l n hl
theorem y3u (l:List Aid) (a:Aid) (hl:okA l) (hv:∀ v∈l,aidL v) (ha:aidL a) (h1:zwb a=true):zvd l a=zob l a:=by
 have hl':=hl.2.2
 rw[yiw l a (by omega) hv ha]
 unfold zkh
 rw[(yfm l).2 hl,h1]
 rfl
theorem yvu (l:List Aid) (a:Aid) (hl:okA l) (hv:∀ v∈l,aidL v) (ha:aidL a) (h1:zwb a=true):zfe l a=zod l a:=by
 have hl':=hl.2.2
 unfold zfe zod
 rw[yed l hv,y2e a ha.1 ha.2,(yfm l).2 hl,h1,yrp l _ (by omega),y9m l _ hl.2.1]
 simp only[ycb,ykd,yeb,yge,Bool.not_true,Bool.or_false,cond_false]
 cases hasN l a.Number with
 | true=>simp only[Bool.not_true,cond_false,cond_true];rw[decide_eq_false (by omega)];rfl
 | false=>rfl
theorem yyu (l:List Aid) (n:Int) (hl:okA l) (hv:∀ v∈l,aidL v):zge l n=zpd l n:=by
 have hl':=hl.2.2
 unfold zge zpd
 rw[yed l hv,(yfm l).2 hl,yrp l _ (by omega),y9m l _ hl.2.1]
 simp only[ycb,yeb,Bool.not_true,cond_false]
 cases hn:hasN l n with
 | true=>
  have hu:=(ytq hn).1
  simp only[Bool.not_true,cond_false,cond_true]
  rw[decide_eq_false (by omega)]
  have hw:IntKind.wrap .i64 ((upto l n:Int)+1)=((upto l n+1:Nat):Int):=by rw[IntKind.wrap_i64];omega
  unfold zgf
  simp only[cond_false,hw,Int.toNat_natCast]
  rw[ykf l _ (by omega),yxg l _ (by omega)]
 | false=>rfl
def okP (P:Aid→Prop) (l:List Aid):Prop:=okA l∧∀ v∈l,P v
theorem y92 (P:Aid→Prop) {l t:List Aid} {a:Aid} (hl:okP P l) (ha:zwb a=true∧P a) (h:zob l a=(t,0)):okP P t:=by
 have hl':=hl.1.2.2
 rw[yck l a (by omega)]at h
 change (bif hasN l a.Number then([],4)else _)=_ at h
 cases hn:hasN l a.Number with
 | true=>rw[hn]at h;simp at h
 | false=>
  rw[hn,cond_false]at h
  cases h24:((l.length:Int) == 24)with
  | true=>rw[h24]at h;simp at h
  | false=>
   rw[h24,cond_false]at h
   simp only[Prod.mk.injEq,and_true]at h
   subst h
   have hne:l.length≠24:=by
    intro e;rw[e]at h24;simp at h24
   have hu:=ybn l a.Number
   have hmem:∀ v,v∈putA l a→v∈l∨v=a:=by
    intro v hv
    simp only[putA,List.mem_append,List.mem_singleton]at hv
    rcases hv with(hv|hv)|hv
    ·exact .inl (List.mem_of_mem_take hv)
    ·exact .inr hv
    ·exact .inl (List.mem_of_mem_drop hv)
   refine⟨⟨fun v hv => ?_,?_,?_⟩,fun v hv => ?_⟩
   ·rcases hmem v hv with h|rfl
    ·exact hl.1.1 v h
    ·exact ha.1
   ·have hpw:=hl.1.2.1
    have h0:l.take (upto l a.Number)++l.drop (upto l a.Number)=l:=List.take_append_drop _ _
    have hp2:(l.take (upto l a.Number)++l.drop (upto l a.Number)).Pairwise ltA:=by rw[h0];exact hpw
    rw[List.pairwise_append]at hp2
    obtain⟨p1,p2,p3⟩:=hp2
    have hlo:∀ x∈l.take (upto l a.Number),ltA x a:=by
     intro x hx
     obtain⟨j,hj,rfl⟩:=List.getElem_of_mem hx
     have hj':j<upto l a.Number:=by simp at hj;omega
     have:=ybv l a.Number j hj'
     rw[List.getD_eq_getElem?_getD,List.getElem?_eq_getElem (show j<l.length by omega)]at this
     simp only[List.getElem_take]
     exact this
    have hhi:∀ x∈l.drop (upto l a.Number),ltA a x:=by
     intro x hx
     obtain⟨j,hj,rfl⟩:=List.getElem_of_mem hx
     have hj':upto l a.Number+j<l.length:=by simp at hj;omega
     simp only[List.getElem_drop]
     have h1:=yhx l a.Number (by omega)
     have h2:(l.getD (upto l a.Number) default).Number≠a.Number:=by
      unfold hasN at hn
      rw[decide_eq_true (show upto l a.Number<l.length by omega)]at hn
      simpa using hn
     unfold ltA
     have h3:(l[upto l a.Number+j]'hj').Number=(l.getD (upto l a.Number+j) default).Number:=by
      rw[List.getD_eq_getElem?_getD,List.getElem?_eq_getElem hj'];rfl
     rw[h3]
     cases j with
     | zero=>simp only[Nat.add_zero];omega
     | succ j=>
      have:=ycr hpw (show upto l a.Number<upto l a.Number+(j+1)by omega) hj'
      omega
    unfold putA
    rw[List.append_assoc,List.pairwise_append]
    refine⟨p1,?_,fun x hx y hy => ?_⟩
    ·rw[List.singleton_append,List.pairwise_cons];exact⟨hhi,p2⟩
    ·rw[List.singleton_append,List.mem_cons]at hy
     rcases hy with rfl|hy
     ·exact hlo x hx
     ·exact p3 x hx y hy
   ·simp[putA];omega
   ·rcases hmem v hv with h|rfl
    ·exact hl.2 v h
    ·exact ha.2
theorem y60 (P:Aid→Prop) {l t:List Aid} {a:Aid} (hl:okP P l) (ha:zwb a=true∧P a) (h:zod l a=(t,0)):okP P t:=by
 have hl':=hl.1.2.2
 unfold zod at h
 rw[y9m l _ hl.1.2.1]at h
 cases hn:hasN l a.Number with
 | false=>rw[hn]at h;simp at h
 | true=>
  rw[hn,cond_true,decide_eq_false (by omega),cond_false]at h
  simp only[Int.toNat_natCast,yeb,yge,Prod.mk.injEq,and_true]at h
  subst h
  obtain⟨hu,hnum⟩:=ytq hn
  have hmem:∀ v,v∈l.set (upto l a.Number) a→v∈l∨v=a:=fun v hv=>by
   rcases List.mem_or_eq_of_mem_set hv with h|h
   ·exact .inl h
   ·exact .inr h
  have hN:∀ j,((l.set (upto l a.Number) a).getD j default).Number=(l.getD j default).Number:=by
   intro j
   by_cases hj:j=upto l a.Number
   ·subst hj
    rw[hnum,List.getD_eq_getElem?_getD,List.getElem?_set_self hu];rfl
   ·rw[List.getD_eq_getElem?_getD,List.getElem?_set_ne (by omega), ← List.getD_eq_getElem?_getD]
  refine⟨⟨fun v hv => ?_,?_,by simpa using hl'⟩,fun v hv => ?_⟩
  ·rcases hmem v hv with h|rfl
   ·exact hl.1.1 v h
   ·exact ha.1
  ·rw[y71 ltA y5p]
   intro j hj
   unfold ltA
   rw[hN,hN]
   exact ycr hl.1.2.1 (by omega) (by simpa using hj)
  ·rcases hmem v hv with h|rfl
   ·exact hl.2 v h
   ·exact ha.2
theorem yd1 (P:Aid→Prop) {l t:List Aid} {n:Int} (hl:okP P l) (h:zpd l n=(t,0)):okP P t:=by
 have hl':=hl.1.2.2
 unfold zpd at h
 rw[y9m l _ hl.1.2.1]at h
 cases hn:hasN l n with
 | false=>rw[hn]at h;simp at h
 | true=>
  have hu:=(ytq hn).1
  have hw:IntKind.wrap .i64 ((upto l n:Int)+1)=((upto l n+1:Nat):Int):=by rw[IntKind.wrap_i64];omega
  rw[hn,cond_true,decide_eq_false (by omega),cond_false]at h
  simp only[hw,Int.toNat_natCast,yeb,Prod.mk.injEq,and_true]at h
  rw[ykf l _ (by omega),yxg l _ (by omega)]at h
  subst h
  have hsub:(l.take (upto l n)++l.drop (upto l n+1)).Sublist l:=by
   have h0:l.take (upto l n)++l.drop (upto l n)=l:=List.take_append_drop _ _
   conv=>rhs;rw[← h0]
   refine List.Sublist.append (List.Sublist.refl _) ?_
   rw[← List.drop_drop]
   exact List.drop_sublist _ _
  refine⟨⟨fun v hv=>hl.1.1 v (hsub.subset hv),hl.1.2.1.sublist hsub,?_⟩,fun v hv=>hl.2 v (hsub.subset hv)⟩
  have:=hsub.length_le
  omega
theorem ykq (a b:Character):zke a b=zlg a b:=by
 unfold zke zlg
 rfl
theorem yzt (a b:Aid):zfg a b=zyf a b:=by
 unfold zfg zyf
 rw[ykq]
 rfl
end Go.Ab

namespace Go.Ab
open Go Go.Proofs
def zhe (a0:Notice):Bool:=
 (bif (((!(zrc a0.Number)) || (!(zec a0.Day))) || (!(zb a0.Kind 1 4)))then false else(bif (zvg a0)then((zvb a0.Aid) && (a0.Target == 0))else((zfg a0.Aid ({ Number:=0,Name:=[],At:={ X:=0,Y:=0:Point },Height:=0,Mark:={ Kind:=0,Colors:=[],Shape:=[],Topmark:=[]:Mark },Light:={ Kind:=0,Group:=[],Letter:=[],Colors:=[],Period:=0:Character },Sectors:=[],Intensity:=0:Aid })) && (zrc a0.Target))))
namespace N124
theorem DD:DOk Tryz.prog (Go.Ab.DD [(139,dP D_zb),(143,dP D_zfg),(158,dP D_zrc),(176,dP D_zvg),(73,dP D_zec),(93,dP D_zvb)]):=ya ygd.e <| ya yjz.e <| ya yrm.e <| ya y4y.e <| ya y5i.e <| ya y8i.e <| ye _
theorem dn:type_of% (And.intro @D_zb.eq_1 <| And.intro @D_zfg.eq_1 <| And.intro @D_zrc.eq_1 <| And.intro @D_zvg.eq_1 <| And.intro @D_zec.eq_1 <| @D_zvb.eq_1):=by and_intros<;>intros<;>rfl
theorem ol:type_of% (@zb.eq_1):=@zb.eq_1
theorem den (a0:Notice) (hb0:bdNotice a0):Den Tryz.prog 124 [.agg (eNotice a0)] (.bool (zhe a0)):=by
 generalize hR:zhe a0=r
 unfold zhe at hR
 refine di Tryz.func124 Tryz.ntmps124 Tryz.results124 ?_
 intro c hL hc hk
 obtain⟨hL0,_⟩:=hL
 have hw0:bwNotice a0:=yg a0 hL0
 clear hL0
 simp only[pars,Nat.zero_add]
 iterate 2 refine rS ?_
 refine AWP.cond rfl (fun hb => ?_) (fun hb => ?_)
 ·replace hR:=ct hR
  refine rS ?_
  refine AWP.ret ?_
  subst hR
  exact es
 ·replace hR:=cf hR
  refine rS ?_
  refine AWP.cond rfl (fun hb => ?_) (fun hb => ?_)
  ·replace hR:=ct hR
   refine rS ?_
   refine AWP.ret ?_
   subst hR
   exact es
  ·replace hR:=cf hR
   refine rS ?_
   refine AWP.ret ?_
   subst hR
   exact es
end N124
def D_zhe : DF
 | [x0]=>some (.bool (zhe (rdG yc x0)),false,[wG eNotice yc x0,bdNotice (rdG yc x0)])
 | _=>none
theorem yct:OkD Tryz.prog 124 D_zhe:=by unfold D_zhe;exact dk N124.den
end Go.Ab

namespace Go.Ab
open Go Go.Proofs
def yeq (a0:(List Notice)) (i1:Nat) (s1:Unit):Except (Bool) (Unit):=
 (bif (((!(zhe (a0.getD i1 default))) || (decide (0<(i1:Int)) && (decide (((a0.getD i1 default).Number)≤((a0.getD ((IntKind.wrap .i64 ((i1:Int)-1)).toNat) default).Number)) || decide (((a0.getD i1 default).Day)<((a0.getD ((IntKind.wrap .i64 ((i1:Int)-1)).toNat) default).Day))))) || ((((a0.getD i1 default).Kind) == 4) && (!(zce (a0.getD i1 default) (subL a0 0 (i1))))))then .error false else .ok ())
def zy (a0:(List Notice)):Bool:=
 (match yh (yeq a0) (a0.length-0) 0 ()with|.error e=>e|.ok s1=>(zbb (a0.length:Int) 32))
namespace N72
theorem DD:DOk Tryz.prog (Go.Ab.DD [(112,dP D_zbb),(124,dP D_zhe),(125,dP D_zce)]):=ya yjh.e <| ya yct.e <| ya y7r.e <| ye _
theorem dn:type_of% (And.intro @D_zbb.eq_1 <| And.intro @D_zhe.eq_1 <| @D_zce.eq_1):=by and_intros<;>intros<;>rfl
theorem den (a0:(List Notice)) (hb0:a0.length<1099511627776) (hb1:∀ v∈a0,bdNotice v):Den Tryz.prog 72 [encL 20 eNotice a0] (.bool (zy a0)):=by
 generalize hR:zy a0=r
 unfold zy at hR
 refine di Tryz.func72 Tryz.ntmps72 Tryz.results72 ?_
 intro c hL hc hk
 obtain⟨hL0,_⟩:=hL
 have hw0:a0.length<9223372036854775808:=Nat.lt_succ_of_le (yb hL0).1
 have hw1:∀ v∈a0,bwNotice v:=fun v hv=>yg v ((yb hL0).2 v hv)
 clear hL0
 simp only[pars,Nat.zero_add]
 iterate 2 refine rS ?_
 refine AWP.block ?_
 generalize hz1:yh (yeq a0) (a0.length-0) 0 ()=z1 at hR
 refine AWP.range (yeq a0) (fun i1 s1=>⟨[(0,encL 20 eNotice a0),(5,encL 20 eNotice a0),(6,.int .i64 (a0.length:Int)),(7,.int .i64 (i1:Int))],[]⟩) (fun i1 s1=>True) (a0.length) 0 () [] hz1 ot wt sm ?_
 clear hz1
 intro i1 s1 hi1 hW1 hz1
 refine rS ?_
 refine AWP.seq ?_
 refine AWP.cond rfl (fun hb => ?_) (fun hb => ?_)
 ·have hlt1:i1<a0.length:=ot
  rw[yj hlt1]at hz1;simp only[yeq]at hz1
  refine rS ?_
  refine rD 42 ?_
  refine AWP.cond rfl (fun hb => ?_) (fun hb => ?_)
  ·simp only[hb,cond_true]at hz1
   refine rS ?_
   refine AWP.ret ?_
   subst hz1
   dsimp only at hR
   subst hR
   exact es
  ·simp only[hb,cond_false]at hz1
   refine rS ?_
   exact⟨_,[],hlt1,wt,hz1,sm⟩
 ·obtain rfl:i1=a0.length:=ot
  rw[yi (Nat.le_refl _)]at hz1;subst hz1;dsimp only at hR
  refine AWP.exit ?_;refine yd ?_
  refine rS ?_
  refine AWP.ret ?_
  subst hR
  exact es
end N72
def D_zy : DF
 | [x0]=>some (.bool (zy (rdL yc x0)),false,[wL 20 eNotice yc x0,(rdL yc x0).length<1099511627776,∀ v∈(rdL yc x0),bdNotice v])
 | _=>none
theorem ypq:OkD Tryz.prog 72 D_zy:=by unfold D_zy;exact dk N72.den
end Go.Ab

namespace Go.Ab
open Go Go.Proofs
def zpb (a0:Notice):Bool:=
 (bif ((!(zd a0.Number 1 9999)) || (!(znb a0.Day)))then false else(bif (a0.Kind == 1)then((zwb a0.Aid) && (a0.Target == 0))else(bif (a0.Kind == 2)then((zwb a0.Aid) && (a0.Target == 0))else(bif (a0.Kind == 3)then((zyf a0.Aid ({ Number:=0,Name:=[],At:={ X:=0,Y:=0:Point },Height:=0,Mark:={ Kind:=0,Colors:=[],Shape:=[],Topmark:=[]:Mark },Light:={ Kind:=0,Group:=[],Letter:=[],Colors:=[],Period:=0:Character },Sectors:=[],Intensity:=0:Aid })) && (zd a0.Target 1 9999))else(bif (a0.Kind == 4)then((zyf a0.Aid ({ Number:=0,Name:=[],At:={ X:=0,Y:=0:Point },Height:=0,Mark:={ Kind:=0,Colors:=[],Shape:=[],Topmark:=[]:Mark },Light:={ Kind:=0,Group:=[],Letter:=[],Colors:=[],Period:=0:Character },Sectors:=[],Intensity:=0:Aid })) && (zd a0.Target 1 9999))else false)))))
namespace N120
theorem DD:DOk Tryz.prog (Go.Ab.DD [(105,dP D_zyf),(137,dP D_zd),(70,dP D_znb),(87,dP D_zwb)]):=ya yb1.e <| ya y9d.e <| ya y8m.e <| ya y9r.e <| ye _
theorem dn:type_of% (And.intro @D_zyf.eq_1 <| And.intro @D_zd.eq_1 <| And.intro @D_znb.eq_1 <| @D_zwb.eq_1):=by and_intros<;>intros<;>rfl
theorem ol:type_of% (@zd.eq_1):=@zd.eq_1
theorem den (a0:Notice) (hb0:bdNotice a0):Den Tryz.prog 120 [.ep (eNotice a0)] (.bool (zpb a0)):=by
 generalize hR:zpb a0=r
 unfold zpb at hR
 refine di Tryz.func120 Tryz.ntmps120 Tryz.results120 ?_
 intro c hL hc hk
 obtain⟨hL0,_⟩:=hL
 have hw0:bwNotice a0:=yg a0 hL0
 clear hL0
 simp only[pars,Nat.zero_add]
 iterate 2 refine rS ?_
 refine AWP.cond rfl (fun hb => ?_) (fun hb => ?_)
 ·replace hR:=ct hR
  refine rS ?_
  refine AWP.ret ?_
  subst hR
  exact es
 ·replace hR:=cf hR
  iterate 3 refine rS ?_
  refine AWP.cond rfl (fun hb => ?_) (fun hb => ?_)
  ·replace hR:=ct hR
   refine AWP.skip ?_
   refine AWP.cond rfl (fun hb => ?_) (fun hb => ?_)
   ·refine rS ?_
    refine AWP.ret ?_
    subst hR
    exact es
   ·exfalso;simp_all
  ·replace hR:=cf hR
   refine rS ?_
   refine AWP.cond rfl (fun hb => ?_) (fun hb => ?_)
   ·replace hR:=ct hR
    refine rS ?_
    refine AWP.ret ?_
    subst hR
    exact es
   ·replace hR:=cf hR
    refine rS ?_
    refine AWP.cond rfl (fun hb => ?_) (fun hb => ?_)
    ·replace hR:=ct hR
     refine AWP.skip ?_
     refine AWP.cond rfl (fun hb => ?_) (fun hb => ?_)
     ·refine rS ?_
      refine AWP.ret ?_
      subst hR
      exact es
     ·exfalso;simp_all
    ·replace hR:=cf hR
     refine rS ?_
     refine AWP.cond rfl (fun hb => ?_) (fun hb => ?_)
     ·replace hR:=ct hR
      refine rS ?_
      refine AWP.ret ?_
      subst hR
      exact es
     ·replace hR:=cf hR
      refine rS ?_
      refine AWP.ret ?_
      subst hR
      exact es
end N120
def D_zpb : DF
 | [x0]=>some (.bool (zpb (rdP yc x0)),false,[wP eNotice yc x0,bdNotice (rdP yc x0)])
 | _=>none
theorem ynt:OkD Tryz.prog 120 D_zpb:=by unfold D_zpb;exact dk N120.den
end Go.Ab
