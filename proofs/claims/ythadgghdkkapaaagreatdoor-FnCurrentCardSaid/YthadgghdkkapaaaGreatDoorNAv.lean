/- A part of a proof: walks of functions and lemmas of our own. No conditions. -/
import Derived.Test.YthadgghdkkapaaaGreatDoorNAl
import Derived.Test.YthadgghdkkapaaaGreatDoorNAp
import Derived.Test.YthadgghdkkapaaaGreatDoorNAu
import Derived.Test.YthadgghdkkapaaaGreatDoorNAr
import Derived.Test.YthadgghdkkapaaaGreatDoorNAs
import Derived.Test.YthadgghdkkapaaaGreatDoorNAi
import Derived.Test.YthadgghdkkapaaaGreatDoorNAq
import Derived.Test.YthadgghdkkapaaaGreatDoorNAk
import Derived.Test.YthadgghdkkapaaaGreatDoorNAo
import Derived.Test.YthadgghdkkapaaaGreatDoorNAn
set_option linter.unusedSectionVars false
set_option linter.unusedVariables false
set_option linter.unusedSimpArgs false
set_option maxHeartbeats 1000000
namespace Go.Ab
open Go Go.Proofs
def yoo (a0:(List Aid)) (i1:Nat) (s1:Unit):Except (Bool) (Unit):=
 (bif ((!(zzb (a0.getD i1 default))) || (decide (0<(i1:Int)) && decide (((a0.getD i1 default).Number)<=((a0.getD ((IntKind.wrap .i64 ((i1:Int)-1)).toNat) default).Number))))then .error false else .ok ())
def zz (a0:(List Aid)):Bool:=
 (match yh (yoo a0) (a0.length-0) 0 ()with|.error e=>e|.ok s1=>(zkb (a0.length:Int) 24))
namespace N59
theorem DD:DOk Tryz.prog (Go.Ab.DD [(112,dP D_zkb),(56,dP D_zzb)]):=ya yqf.e <| ya y6g.e <| ye _
theorem dn:type_of% (And.intro @D_zkb.eq_1 <| @D_zzb.eq_1):=by and_intros<;>intros<;>rfl
theorem den (a0:(List Aid)) (hb0:a0.length<1099511627776) (hb1:∀ v∈a0,bdAid v):Den Tryz.prog 59 [encL 16 eAid a0] (.bool (zz a0)):=by
 generalize hR:zz a0=r;unfold zz at hR;refine di Tryz.func59 Tryz.ntmps59 Tryz.results59 ?_;intro c hL hc hk;obtain⟨hL0,_⟩:=hL;have hw0:a0.length<9223372036854775808:=Nat.lt_succ_of_le (yb hL0).1;have hw1:∀ v∈a0,bwAid v:=fun v hv=>yy v ((yb hL0).2 v hv)
 clear hL0;simp only[pars,Nat.zero_add];iterate 2 refine rS ?_
 refine AWP.block ?_;generalize hz1:yh (yoo a0) (a0.length-0) 0 ()=z1 at hR;refine AWP.range (yoo a0) (fun i1 s1=>⟨[(0,encL 16 eAid a0),(5,encL 16 eAid a0),(6,.int .i64 (a0.length:Int)),(7,.int .i64 (i1:Int))],[]⟩) (fun i1 s1=>True) (a0.length) 0 () [] hz1 ot wt sm ?_;clear hz1;intro i1 s1 hi1 hW1 hz1;refine rS ?_;refine AWP.seq ?_;refine AWP.cond rfl (fun hb => ?_) (fun hb => ?_)
 ·have hlt1:i1<a0.length:=ot
  rw[yp hlt1]at hz1;simp only[yoo]at hz1;refine rS ?_;refine rD 18 ?_;refine AWP.cond rfl (fun hb => ?_) (fun hb => ?_)
  ·simp only[hb,cond_true]at hz1
   refine rS ?_;refine AWP.ret ?_;subst hz1;dsimp only at hR;subst hR;exact es
  ·simp only[hb,cond_false]at hz1
   refine rS ?_;exact⟨_,[],hlt1,wt,hz1,sm⟩
 ·obtain rfl:i1=a0.length:=ot
  rw[yn (Nat.le_refl _)]at hz1;subst hz1;dsimp only at hR;refine AWP.exit ?_;refine yd ?_;refine rS ?_;refine AWP.ret ?_;subst hR;exact es
end N59
def D_zz : DF
 | [x0]=>some (.bool (zz (rdL dAid x0)),false,[wL 16 eAid dAid x0,(rdL dAid x0).length<1099511627776,∀ v∈(rdL dAid x0),bdAid v])
 | _=>none
theorem yai:OkD Tryz.prog 59 D_zz:=by unfold D_zz;exact dk N59.den
def zeb (a0:Aid):Bool:=
 (bif (((((!(zf a0.Number 1 9999)) || (!(zxb a0.Name))) || (!(znd a0.At))) || (!(zf a0.Height 0 3000))) || (!(znc a0.Mark)))then false else(bif (zxc a0.Light)then(((a0.Sectors.length:Int) == 0) && (a0.Intensity == 0))else(bif (((!(zdc a0.Light)) || (!(zf a0.Intensity 1 100000000))) || (!(zx a0.Sectors)))then false else(bif ((a0.Sectors.length:Int) == 0)then((a0.Light.Colors.length:Int) == 1)else((zy a0.Sectors) == a0.Light.Colors)))))
namespace N65
theorem DD:DOk Tryz.prog (Go.Ab.DD [(116,dP D_zxb),(117,dP D_znd),(118,dP D_znc),(119,dP D_zxc),(120,dP D_zdc),(121,dP D_zx),(122,dP D_zy),(81,dP D_zf)]):=ya yiw.e <| ya yjx.e <| ya yzv.e <| ya y0v.e <| ya ytw.e <| ya yu0.e <| ya yut.e <| ya yyd.e <| ye _
theorem dn:type_of% (And.intro @D_zxb.eq_1 <| And.intro @D_znd.eq_1 <| And.intro @D_znc.eq_1 <| And.intro @D_zxc.eq_1 <| And.intro @D_zdc.eq_1 <| And.intro @D_zx.eq_1 <| And.intro @D_zy.eq_1 <| @D_zf.eq_1):=by and_intros<;>intros<;>rfl
theorem ol:type_of% (@zf.eq_1):=@zf.eq_1
theorem den (a0:Aid) (hb0:bdAid a0):Den Tryz.prog 65 [.ep (eAid a0)] (.bool (zeb a0)):=by
 generalize hR:zeb a0=r;unfold zeb at hR;refine di Tryz.func65 Tryz.ntmps65 Tryz.results65 ?_;intro c hL hc hk;obtain⟨hL0,_⟩:=hL;have hw0:bwAid a0:=yy a0 hL0;clear hL0;simp only[pars,Nat.zero_add];iterate 2 refine rS ?_
 refine AWP.cond rfl (fun hb => ?_) (fun hb => ?_)
 ·replace hR:=ct hR
  refine rS ?_;refine AWP.ret ?_;subst hR;exact es
 ·replace hR:=cf hR
  refine rS ?_;refine AWP.cond rfl (fun hb => ?_) (fun hb => ?_)
  ·replace hR:=ct hR
   refine rS ?_;refine AWP.ret ?_;subst hR;exact es
  ·replace hR:=cf hR
   refine rS ?_;refine AWP.cond rfl (fun hb => ?_) (fun hb => ?_)
   ·replace hR:=ct hR
    refine rS ?_;refine AWP.ret ?_;subst hR;exact es
   ·replace hR:=cf hR
    refine rS ?_;refine AWP.cond rfl (fun hb => ?_) (fun hb => ?_)
    ·replace hR:=ct hR
     refine rS ?_;refine AWP.ret ?_;subst hR;exact es
    ·replace hR:=cf hR
     refine rD 11 ?_;refine AWP.ret ?_;subst hR;exact es
end N65
def D_zeb : DF
 | [x0]=>some (.bool (zeb (rdP dAid x0)),false,[wP eAid dAid x0,bdAid (rdP dAid x0)])
 | _=>none
theorem y1q:OkD Tryz.prog 65 D_zeb:=by unfold D_zeb;exact dk N65.den
def yjg (a0:(List Aid)) (i1:Nat) (s1:Unit):Except (Bool) (Unit):=
 (bif ((!(zeb (a0.getD i1 default))) || (decide (0<(i1:Int)) && decide (((a0.getD i1 default).Number)<=((a0.getD ((IntKind.wrap .i64 ((i1:Int)-1)).toNat) default).Number))))then .error false else .ok ())
def zsb (a0:(List Aid)):Bool:=
 (match yh (yjg a0) (a0.length-0) 0 ()with|.error e=>e|.ok s1=>decide ((a0.length:Int)<=24))
namespace N80
theorem DD:DOk Tryz.prog (Go.Ab.DD [(65,dP D_zeb)]):=ya y1q.e <| ye _
theorem dn:type_of% (@D_zeb.eq_1):=by and_intros<;>intros<;>rfl
theorem den (a0:(List Aid)) (hb0:a0.length<1099511627776) (hb1:∀ v∈a0,bdAid v):Den Tryz.prog 80 [encL 16 eAid a0] (.bool (zsb a0)):=by
 generalize hR:zsb a0=r;unfold zsb at hR;refine di Tryz.func80 Tryz.ntmps80 Tryz.results80 ?_;intro c hL hc hk;obtain⟨hL0,_⟩:=hL;have hw0:a0.length<9223372036854775808:=Nat.lt_succ_of_le (yb hL0).1;have hw1:∀ v∈a0,bwAid v:=fun v hv=>yy v ((yb hL0).2 v hv)
 clear hL0;simp only[pars,Nat.zero_add];iterate 2 refine rS ?_
 refine AWP.block ?_;generalize hz1:yh (yjg a0) (a0.length-0) 0 ()=z1 at hR;refine AWP.range (yjg a0) (fun i1 s1=>⟨[(0,encL 16 eAid a0),(3,.int .i64 (i1:Int))],[]⟩) (fun i1 s1=>True) (a0.length) 0 () [] hz1 ot wt sm ?_;clear hz1;intro i1 s1 hi1 hW1 hz1;refine rS ?_;refine AWP.cond rfl (fun hb => ?_) (fun hb => ?_)
 ·have hlt1:i1<a0.length:=ot
  rw[yp hlt1]at hz1;simp only[yjg]at hz1;refine rD 23 ?_;refine AWP.cond rfl (fun hb => ?_) (fun hb => ?_)
  ·simp only[hb,cond_true]at hz1
   refine rS ?_;refine AWP.ret ?_;subst hz1;dsimp only at hR;subst hR;exact es
  ·simp only[hb,cond_false]at hz1
   refine rS ?_;exact⟨_,[],hlt1,wt,hz1,sm⟩
 ·obtain rfl:i1=a0.length:=ot
  rw[yn (Nat.le_refl _)]at hz1;subst hz1;dsimp only at hR;refine AWP.exit ?_;refine yd ?_;refine rS ?_;refine AWP.ret ?_;subst hR;exact es
end N80
def D_zsb : DF
 | [x0]=>some (.bool (zsb (rdL dAid x0)),false,[wL 16 eAid dAid x0,(rdL dAid x0).length<1099511627776,∀ v∈(rdL dAid x0),bdAid v])
 | _=>none
theorem y1w:OkD Tryz.prog 80 D_zsb:=by unfold D_zsb;exact dk N80.den
theorem ysu (c:Character) (h:zxc c=true):zze c=false:=by
 unfold zxc at h;simp only[Bool.and_eq_true,beq_iff_eq]at h;obtain⟨⟨⟨⟨h1,h2⟩,h3⟩,h4⟩,h5⟩:=h;cases c
 simp only at h1 h2 h3 h4 h5;rename_i k g l cs p
 have hg:g=[]:=List.length_eq_zero_iff.1 (by omega);subst h1 hg h3 h4 h5;decide
theorem y1x (a:Aid):zef a=((zxc a.Light && ((a.Sectors.length:Int) == 0)) && (a.Intensity == 0)):=by
 unfold zef zud zxc;rw[yve]
 have:decide (a.Light.Group=[])=((a.Light.Group.length:Int) == 0):=by
  cases a.Light.Group with
  | nil=>rfl
  | cons x l=>simp;omega
 rw[this]
theorem yqd (a:Aid) (hl:a.Light.Colors.length<9223372036854775808) (hs:a.Sectors.length<9223372036854775807):zzb a=zeb a:=by
 unfold zzb zeb;rw[y1x];unfold zwf;rw[yth a.Sectors hs,y4l,y6l,ya1];have e1:zjc a.Number=zf a.Number 1 9999:=rfl;have e2:zof a.At=znd a.At:=rfl;have e3:znf a.Height=zf a.Height 0 3000:=rfl;have e4:zpf a.Intensity=zf a.Intensity 1 100000000:=rfl;rw[e1,e2,e3,e4]
 cases hp:zxc a.Light with
 | true=>
  rw[ysu _ hp];simp only[Bool.not_false,Bool.true_or,cond_true,Bool.true_and,Bool.false_or];cases zf a.Number 1 9999<;>cases zxb a.Name<;>cases znd a.At<;>cases zf a.Height 0 3000<;>cases znc a.Mark<;>rfl
 | false=>
  rw[ybv a.Light hl];simp only[Bool.false_and,Bool.or_false,cond_false];cases zf a.Number 1 9999<;>cases zxb a.Name<;>cases znd a.At<;>cases zf a.Height 0 3000<;>cases znc a.Mark<;>rfl
theorem ymc (l:List Aid) (h:∀ v∈l,v.Light.Colors.length<9223372036854775808/\v.Sectors.length<9223372036854775807):zz l=zsb l:=by
 unfold zz zsb
 rw[ylj (b:=yoo l) (b':=yjg l) (l.length-0) 0 () (fun j u _ hj=>by
  have:=y7d (p:=fun v:Aid=>v.Light.Colors.length<9223372036854775808/\v.Sectors.length<9223372036854775807) h ⟨by decide,by decide⟩ j
  simp only[yoo,yjg,yqd _ this.1 this.2])]
 rfl
theorem ymu {a:List Aid} (h:zsb a=true):a.length<=24:=by
 unfold zsb at h;split at h
 ·rename_i e he
  obtain⟨j,t,_,_,h3⟩:=yfc he;simp only[yjg,Bool.cond_eq_ite]at h3;split at h3
  ·cases h3;cases h
  ·cases h3
 ·have:=of_decide_eq_true h;omega
theorem ycc {a:List Aid} (h:zz a=true):a.length<=24:=by
 unfold zz at h;split at h
 ·rename_i e he
  obtain⟨j,t,_,_,h3⟩:=yfc he;simp only[yoo,Bool.cond_eq_ite]at h3;split at h3
  ·cases h3;cases h
  ·cases h3
 ·unfold zkb at h;have:=of_decide_eq_true h;omega
theorem ysk {ρ α:Type} [Inhabited α] (l:List α) (b:Nat->List α->Except ρ (List α)) (hb:∀ i s,b i s=.ok (s++[l.getD i default])):yh b (l.length-0) 0 ([]:List α)=.ok l:=by
 obtain⟨t,h1,h2⟩:=y4e (b:=b) (fun i s=>s=l.take i) (k:=l.length-0) (i:=0) (s:=[]) (by simp) (by
  intro j u _ hj h;subst h
  exact⟨_,hb j _,(y6i l j (by omega)).symm⟩)
 rw[h1,h2];simp
theorem yod (a:Aid):zcd a=a:=by simp[zcd,zqf,zrf]
theorem y6 (l:List Aid):zhb l=l:=by
 unfold zhb;rw[show(List.replicate 0 (default:Aid))=[]from rfl,ysk l (yxj l) (fun i s=>by simp only[yxj,yod])]
theorem yvi (a:Aid):zfd a=a:=by simp[zfd,zvf,zuf]
theorem yee (l:List Aid):zgd l=l:=by
 unfold zgd;rw[ysk l (yjj l) (fun i s=>by simp only[yjj,yvi])]
def zlc (a0:(List Aid)) (a1:Aid):((List Aid)×Int):=
 (bif ((!(zz a0)) || (!(zzb a1)))then([],1)else(bif (zq a0 a1.Number).2 then([],4)else(bif ((a0.length:Int) == 24)then([],5)else(((zoe (zhb a0) ((zq a0 a1.Number).1) [zcd a1])),0))))
namespace N205
theorem DD:DOk Tryz.prog (Go.Ab.DD [(141,dP D_zhb),(204,dP D_zcd),(256,dP D_zq),(257,dM [true,false,true] D_zoe),(56,dP D_zzb),(59,dP D_zz)]):=ya y8g.e <| ya ykk.e <| ya yro.e <| ya ypw.e <| ya y6g.e <| ya yai.e <| ye _
theorem dn:type_of% (And.intro @D_zhb.eq_1 <| And.intro @D_zcd.eq_1 <| And.intro @D_zq.eq_1 <| And.intro @D_zoe.eq_1 <| And.intro @D_zzb.eq_1 <| @D_zz.eq_1):=by and_intros<;>intros<;>rfl
theorem ol:type_of% (@y6):=@y6
theorem gr {p:Prop} (h:p:=by(grind [ybo,ycc]);first|done|fail):p:=h
theorem o1 {p:Prop} (h:p:=by(first|(have h9:=ycc (a:=a0) (by simp_all);simp only[ob,ln,ol]at *;omega));first|done|fail):p:=h
theorem den (a0:(List Aid)) (a1:Aid) (hb0:a0.length<1099511627776) (hb1:∀ v∈a0,bdAid v) (hb2:bdAid a1):Den Tryz.prog 205 [encL 16 eAid a0,.agg (eAid a1)] (.tup [ownL 45 16 ynb ((zlc a0 a1).1),.int .i64 ((zlc a0 a1).2)]):=by
 generalize hR:zlc a0 a1=r;unfold zlc at hR;refine di Tryz.func205 Tryz.ntmps205 Tryz.results205 ?_;intro c hL hc hk;obtain⟨hL0,hL1,_⟩:=hL;have hw0:a0.length<9223372036854775808:=Nat.lt_succ_of_le (yb hL0).1;have hw1:∀ v∈a0,bwAid v:=fun v hv=>yy v ((yb hL0).2 v hv)
 have hw2:bwAid a1:=yy a1 hL1;clear hL0 hL1;simp only[pars,Nat.zero_add];have hix:=ybo a0 a1.Number hw0;iterate 2 refine rS ?_
 refine AWP.cond rfl (fun hb => ?_) (fun hb => ?_)
 ·replace hR:=ct hR
  refine rS ?_;refine AWP.ret ?_;subst hR;exact es
 ·replace hR:=cf hR
  iterate 2 refine rS ?_
  refine AWP.cond rfl (fun hb => ?_) (fun hb => ?_)
  ·replace hR:=ct hR
   refine rS ?_;refine AWP.ret ?_;subst hR;exact es
  ·replace hR:=cf hR
   refine rS ?_;refine AWP.cond rfl (fun hb => ?_) (fun hb => ?_)
   ·replace hR:=ct hR
    refine rS ?_;refine AWP.ret ?_;subst hR;exact es
   ·replace hR:=cf hR
    refine AWP.skip ?_;refine AWP.seq ?_;refine AWP.regP mixed G_ok DD hc 6 [0,2,3] (.alt 1 [] [2,3] (.alt 4 [] [2] (.alt 5 [] [2] .leaf .stop) .stop) .stop) (by kernel_rfl) (by kernel_rfl) (by kernel_rfl) (fun K hK => ?_);simp only[y0g,runN,runP,y5b,nthO,ea,absV,absVL,cput,gv,sv,dn,reduceCtorEq,reduceIte,Nat.reduceBEq,Nat.reduceAdd,Nat.reduceEqDiff,Nat.reduceLT,Nat.reduceLeDiff,Nat.reduceMul,Nat.reduceSub,BEq.rfl,beq_self_eq_true,Int.reduceToNat];repeat' apply And.intro
    all_goals first|refine hK _ ?_|exact ot
    all_goals clear hK K
    refine AWP.ret ?_;subst hR;exact es
end N205
def D_zlc : DF
 | [x0,x1]=>some (.tup [ownL 45 16 ynb ((zlc (rdL dAid x0) (rdG dAid x1)).1),.int .i64 ((zlc (rdL dAid x0) (rdG dAid x1)).2)],false,[wL 16 eAid dAid x0,wG eAid dAid x1,(rdL dAid x0).length<1099511627776,∀ v∈(rdL dAid x0),bdAid v,bdAid (rdG dAid x1)])
 | _=>none
theorem yqx:OkD Tryz.prog 205 D_zlc:=by unfold D_zlc;exact dk N205.den
def ymj (a0:(List Aid)) (a1:Aid) (s1:Int):Except (Sum (((List Aid)×Int)) (Int)) (Int):=
 (bif (decide (s1<(a0.length:Int)) && decide (((a0.getD ((s1).toNat) default).Number)<a1.Number))then .ok (IntKind.wrap .i64 (s1+1))else .error (.inr s1))
def zub (a0:(List Aid)) (a1:Aid):((List Aid)×Int):=
 (match yqb (ymj a0 a1) ((a0.length-((0:Int)).toNat)+1) 0 with|.error (.inl e)=>e|.error (.inr s1)=>(bif (decide (s1<(a0.length:Int)) && (((a0.getD ((s1).toNat) default).Number) == a1.Number))then([],4)else(bif ((a0.length:Int) == 24)then([],5)else(((zgd (subL a0 0 ((s1).toNat)))++[zfd a1])++(zgd (subL a0 ((s1).toNat) (a0.length-(s1).toNat))),0)))|.ok _=>default)
namespace N138
theorem DD:DOk Tryz.prog (Go.Ab.DD [(197,dP D_zgd),(198,dP D_zfd)]):=ya ygw.e <| ya yvk.e <| ye _
theorem dn:type_of% (And.intro @D_zgd.eq_1 <| @D_zfd.eq_1):=by and_intros<;>intros<;>rfl
theorem ol:type_of% (@yee):=@yee
theorem den (a0:(List Aid)) (a1:Aid) (hb0:a0.length<1099511627776) (hb1:∀ v∈a0,bdAid v) (hb2:bdAid a1) (hp0:a0.length<=1073741824):Den Tryz.prog 138 [encL 16 eAid a0,.ep (eAid a1)] (.tup [ownL 45 16 ynb ((zub a0 a1).1),.int .i64 ((zub a0 a1).2)]):=by
 generalize hR:zub a0 a1=r;unfold zub at hR;refine di Tryz.func138 Tryz.ntmps138 Tryz.results138 ?_;intro c hL hc hk;obtain⟨hL0,hL1,_⟩:=hL;have hw0:a0.length<9223372036854775808:=Nat.lt_succ_of_le (yb hL0).1;have hw1:∀ v∈a0,bwAid v:=fun v hv=>yy v ((yb hL0).2 v hv)
 have hw2:bwAid a1:=yy a1 hL1;clear hL0 hL1;simp only[pars,Nat.zero_add];iterate 2 refine rS ?_
 refine AWP.seq ?_;refine AWP.block ?_;generalize hz1:yqb (ymj a0 a1) ((a0.length-((0:Int)).toNat)+1) 0=z1 at hR;refine AWP.whileW (ymj a0 a1) (fun s1=>⟨[(0,encL 16 eAid a0),(1,.ep (eAid a1)),(6,.int .i64 s1)],[]⟩) (fun s1=>0<=s1/\s1<=a0.length) (fun s1=>a0.length-(s1).toNat) ((a0.length-((0:Int)).toNat)+1) 0 [] hz1 m0 wt sm ?_;clear hz1;intro s1 k1 hW1 hm1 hz1;simp only[ymj]at hz1;refine rD 16 ?_;refine AWP.cond rfl (fun hb => ?_) (fun hb => ?_)
 ·simp only[hb,cond_true]at hz1
  refine rS ?_;exact⟨_,[],ms,wt,hz1,sm⟩
 ·simp only[hb,cond_false]at hz1
  refine AWP.exit ?_;refine yd ?_;subst hz1;dsimp only at hR;refine rD 16 ?_;refine AWP.cond rfl (fun hb => ?_) (fun hb => ?_)
  ·replace hR:=ct hR
   refine rS ?_;refine AWP.ret ?_;subst hR;exact es
  ·replace hR:=cf hR
   refine rS ?_;refine AWP.cond rfl (fun hb => ?_) (fun hb => ?_)
   ·replace hR:=ct hR
    refine rS ?_;refine AWP.ret ?_;subst hR;exact es
   ·replace hR:=cf hR
    iterate 3 refine rS ?_
    refine AWP.ret ?_;subst hR;exact es
end N138
def D_zub : DF
 | [x0,x1]=>some (.tup [ownL 45 16 ynb ((zub (rdL dAid x0) (rdP dAid x1)).1),.int .i64 ((zub (rdL dAid x0) (rdP dAid x1)).2)],false,[wL 16 eAid dAid x0,wP eAid dAid x1,(rdL dAid x0).length<1099511627776,∀ v∈(rdL dAid x0),bdAid v,bdAid (rdP dAid x1),(rdL dAid x0).length<=1073741824])
 | _=>none
theorem y4x:OkD Tryz.prog 138 D_zub:=by unfold D_zub;exact dk N138.den
def aidL (v:Aid):Prop:=v.Light.Colors.length<9223372036854775808/\v.Sectors.length<9223372036854775807
theorem y2d {α:Type} [Inhabited α] (l:List α) (n:Nat) (h:n<=l.length):subL l 0 n=l.take n:=by
 apply ygl
 ·simp[subL,h]
 ·intro i hi
  have hi:i<n:=by simpa [subL]using hi
  simp only[subL,Nat.zero_add];rw[List.getD_eq_getElem?_getD,List.getD_eq_getElem?_getD,List.getElem?_map,List.getElem?_range hi,List.getElem?_take,if_pos hi];simp[List.getD_eq_getElem?_getD]
theorem ymt {α:Type} [Inhabited α] (l:List α) (n:Nat) (h:n<=l.length):subL l n (l.length-n)=l.drop n:=by
 apply ygl
 ·simp[subL]
 ·intro i hi
  have hi:i<l.length-n:=by simpa [subL]using hi
  simp only[subL];rw[List.getD_eq_getElem?_getD,List.getD_eq_getElem?_getD,List.getElem?_map,List.getElem?_range hi,List.getElem?_drop];simp[List.getD_eq_getElem?_getD]
theorem ydx (l:List Aid) (a:Aid) (hl:l.length<9223372036854775808):yqb (ymj l a) ((l.length-((0:Int)).toNat)+1) 0=.error (.inr (upto l a.Number:Int)):=by
 have:=yuo l a.Number hl (ymj l a) (fun s=>rfl) l [] (l.length-(0:Int).toNat+1) rfl (by simp);simp only[List.length_nil,Nat.zero_add]at this;have e0:((0:Nat):Int)=0:=rfl;simp only[e0]at this;exact this
def putA (l:List Aid) (a:Aid):List Aid:=l.take (upto l a.Number)++[a]++l.drop (upto l a.Number)
theorem yuh (l:List Aid) (a:Aid) (hl:l.length<9223372036854775808) :
  zub l a=bif (decide (upto l a.Number<l.length) && ((l.getD (upto l a.Number) default).Number == a.Number))then([],4)else(bif ((l.length:Int) == 24)then([],5)else(putA l a,0)):=by
 unfold zub;rw[ydx l a hl];have hu:=ywk l a.Number
 have e:(decide ((upto l a.Number:Int)<(l.length:Int)) && ((l.getD ((upto l a.Number:Int)).toNat default).Number == a.Number))=(decide (upto l a.Number<l.length) && ((l.getD (upto l a.Number) default).Number == a.Number)):=by
  rw[Int.toNat_natCast];congr 1
  exact decide_eq_decide.2 (by omega)
 simp only[yee,yvi];rw[e];simp only[Int.toNat_natCast];rw[y2d l _ hu,ymt l _ hu];rfl
theorem ydt (a b:Sector):(a.From == b.From && (a.To == b.To && a.Color == b.Color))=decide (a=b):=by
 cases a;cases b
 apply Bool.eq_iff_iff.2;simp[Sector.mk.injEq]
theorem yzh (a b:List Sector):zld a b=decide (a=b):=by
 unfold zld;by_cases hl:a.length=b.length
 ·have h1:((a.length:Int) != (b.length:Int))=false:=by simp[hl]
  rw[h1,cond_false,ybc (b:=yfk a b) (fun j => !decide (a.getD j default=b.getD j default)) false (fun j u _ _=>by simp only[yfk,ydt])];simp only[Nat.sub_zero,Nat.zero_add];rw[yht a b hl];by_cases h:a=b<;>simp[h]
 ·have h1:((a.length:Int) != (b.length:Int))=true:=by simp;omega
  have h2:¬ a=b:=fun e=>hl (by rw[e])
  rw[h1,cond_true,decide_eq_false h2]
def zhd (a0:(List Aid)) (a1:Aid):((List Aid)×Int):=
 (bif ((!(zz a0)) || (!(zzb a1)))then([],1)else(bif (!((zq a0 a1.Number).2))then([],3)else((zhb a0).set (((zq a0 a1.Number).1).toNat) (zcd a1),0)))
namespace N206
theorem DD:DOk Tryz.prog (Go.Ab.DD [(141,dP D_zhb),(204,dP D_zcd),(256,dP D_zq),(56,dP D_zzb),(59,dP D_zz)]):=ya y8g.e <| ya ykk.e <| ya yro.e <| ya y6g.e <| ya yai.e <| ye _
theorem dn:type_of% (And.intro @D_zhb.eq_1 <| And.intro @D_zcd.eq_1 <| And.intro @D_zq.eq_1 <| And.intro @D_zzb.eq_1 <| @D_zz.eq_1):=by and_intros<;>intros<;>rfl
theorem ol:type_of% (@y6):=@y6
theorem gr {p:Prop} (h:p:=by(grind [ybo,ycc]);first|done|fail):p:=h
theorem den (a0:(List Aid)) (a1:Aid) (hb0:a0.length<1099511627776) (hb1:∀ v∈a0,bdAid v) (hb2:bdAid a1):Den Tryz.prog 206 [encL 16 eAid a0,.agg (eAid a1)] (.tup [ownL 45 16 ynb ((zhd a0 a1).1),.int .i64 ((zhd a0 a1).2)]):=by
 generalize hR:zhd a0 a1=r;unfold zhd at hR;refine di Tryz.func206 Tryz.ntmps206 Tryz.results206 ?_;intro c hL hc hk;obtain⟨hL0,hL1,_⟩:=hL;have hw0:a0.length<9223372036854775808:=Nat.lt_succ_of_le (yb hL0).1;have hw1:∀ v∈a0,bwAid v:=fun v hv=>yy v ((yb hL0).2 v hv)
 have hw2:bwAid a1:=yy a1 hL1;clear hL0 hL1;simp only[pars,Nat.zero_add];have hix:=ybo a0 a1.Number hw0;iterate 2 refine rS ?_
 refine AWP.cond rfl (fun hb => ?_) (fun hb => ?_)
 ·replace hR:=ct hR
  refine rS ?_;refine AWP.ret ?_;subst hR;exact es
 ·replace hR:=cf hR
  iterate 2 refine rS ?_
  refine AWP.cond rfl (fun hb => ?_) (fun hb => ?_)
  ·replace hR:=ct hR
   refine rS ?_;refine AWP.ret ?_;subst hR;exact es
  ·replace hR:=cf hR
   iterate 3 refine rS ?_
   refine AWP.ret ?_;subst hR;exact es
end N206
def D_zhd : DF
 | [x0,x1]=>some (.tup [ownL 45 16 ynb ((zhd (rdL dAid x0) (rdG dAid x1)).1),.int .i64 ((zhd (rdL dAid x0) (rdG dAid x1)).2)],false,[wL 16 eAid dAid x0,wG eAid dAid x1,(rdL dAid x0).length<1099511627776,∀ v∈(rdL dAid x0),bdAid v,bdAid (rdG dAid x1)])
 | _=>none
theorem yhw:OkD Tryz.prog 206 D_zhd:=by unfold D_zhd;exact dk N206.den
def zid (a0:(List Aid)) (a1:Int):((List Aid)×Int):=
 (bif (!(zz a0))then([],1)else(bif (!((zq a0 a1).2))then([],3)else(((zpe (zhb a0) ((zq a0 a1).1) (IntKind.wrap .i64 (((zq a0 a1).1)+1)))),0)))
namespace N207
theorem DD:DOk Tryz.prog (Go.Ab.DD [(141,dP D_zhb),(256,dP D_zq),(258,dM [true,false,false] D_zpe),(59,dP D_zz)]):=ya y8g.e <| ya yro.e <| ya yew.e <| ya yai.e <| ye _
theorem dn:type_of% (And.intro @D_zhb.eq_1 <| And.intro @D_zq.eq_1 <| And.intro @D_zpe.eq_1 <| @D_zz.eq_1):=by and_intros<;>intros<;>rfl
theorem ol:type_of% (@y6):=@y6
theorem gr {p:Prop} (h:p:=by(grind [ybo,ycc]);first|done|fail):p:=h
theorem den (a0:(List Aid)) (a1:Int) (hb0:a0.length<1099511627776) (hb1:∀ v∈a0,bdAid v):Den Tryz.prog 207 [encL 16 eAid a0,.int .i64 a1] (.tup [ownL 45 16 ynb ((zid a0 a1).1),.int .i64 ((zid a0 a1).2)]):=by
 generalize hR:zid a0 a1=r;unfold zid at hR;refine di Tryz.func207 Tryz.ntmps207 Tryz.results207 ?_;intro c hL hc hk;obtain⟨hL0,hL1,_⟩:=hL;have hw0:a0.length<9223372036854775808:=Nat.lt_succ_of_le (yb hL0).1;have hw1:∀ v∈a0,bwAid v:=fun v hv=>yy v ((yb hL0).2 v hv)
 clear hL0 hL1;simp only[pars,Nat.zero_add];have hix:=ybo a0 a1 hw0;iterate 2 refine rS ?_
 refine AWP.cond rfl (fun hb => ?_) (fun hb => ?_)
 ·replace hR:=ct hR
  refine rS ?_;refine AWP.ret ?_;subst hR;exact es
 ·replace hR:=cf hR
  iterate 2 refine rS ?_
  refine AWP.cond rfl (fun hb => ?_) (fun hb => ?_)
  ·replace hR:=ct hR
   refine rS ?_;refine AWP.ret ?_;subst hR;exact es
  ·replace hR:=cf hR
   refine rS ?_;refine AWP.ret ?_;subst hR;exact es
end N207
def D_zid : DF
 | [x0,x1]=>some (.tup [ownL 45 16 ynb ((zid (rdL dAid x0) (rdI x1)).1),.int .i64 ((zid (rdL dAid x0) (rdI x1)).2)],false,[wL 16 eAid dAid x0,wI .i64 x1,(rdL dAid x0).length<1099511627776,∀ v∈(rdL dAid x0),bdAid v])
 | _=>none
theorem ywy:OkD Tryz.prog 207 D_zid:=by unfold D_zid;exact dk N207.den
def ltA (a b:Aid):Prop:=a.Number<b.Number
theorem y7l (a b c:Aid) (h:ltA a b) (k:ltA b c):ltA a c:=by unfold ltA at *;omega
def okA (l:List Aid):Prop:=(∀ v∈l,zeb v=true)/\l.Pairwise ltA/\l.length<=24
theorem y8f (l:List Aid):zsb l=true↔okA l:=by
 unfold zsb;refine Iff.trans (y6e (b:=yjg l) (fun j=>(!(zeb (l.getD j default))) || (decide (0<(j:Int)) && decide (((l.getD j default).Number)<=((l.getD ((IntKind.wrap .i64 ((j:Int)-1)).toNat) default).Number)))) l.length _ (fun j u _=>rfl)) ?_;unfold okA;rw[yhz ltA y7l l,decide_eq_true_eq]
 have e:∀ j:Nat,0<j->j<l.length->l.length<9223372036854775808->(IntKind.wrap .i64 ((j:Int)-1)).toNat=j-1:=by
  intro j h0 h1 h2;rw[IntKind.wrap_i64];omega
 constructor
 ·rintro⟨h1,h2⟩
  have h2':l.length<=24:=by omega
  refine⟨fun v hv => ?_,fun j hj => ?_,h2'⟩
  ·obtain⟨j,hj,rfl⟩:=List.getElem_of_mem hv
   have:=h1 j hj;rw[Bool.or_eq_false_iff]at this;have h3:=this.1;rw[List.getD_eq_getElem?_getD,List.getElem?_eq_getElem hj]at h3;simpa using h3
  ·have:=h1 (j+1) hj
   rw[Bool.or_eq_false_iff,e (j+1) (by omega) hj (by omega)]at this;have h3:=this.2;simp only[Nat.add_sub_cancel]at h3;unfold ltA;simp only[Bool.and_eq_false_iff,decide_eq_false_iff_not]at h3;rcases h3 with h3|h3<;>omega
 ·rintro⟨h1,h2,h3⟩
  refine⟨fun j hj => ?_,by omega⟩;rw[Bool.or_eq_false_iff];constructor
  ·have:l.getD j default∈l:=by
    rw[List.getD_eq_getElem?_getD,List.getElem?_eq_getElem hj];exact List.getElem_mem hj
   rw[h1 _ this];rfl
  ·cases j with
   | zero=>simp
   | succ j=>
    rw[e (j+1) (by omega) hj (by omega)];have:=h2 j hj;unfold ltA at this;simp only[Nat.add_sub_cancel,Bool.and_eq_false_iff,decide_eq_false_iff_not];right;omega
theorem yf1 (l:List Aid) (n:Int):∀ j,j<upto l n->(l.getD j default).Number<n:=by
 unfold upto
 induction l with
 | nil=>intro j hj;simp at hj
 | cons x l ih=>
  intro j hj;rw[List.takeWhile_cons]at hj;by_cases h:x.Number<n
  ·rw[if_pos (decide_eq_true h)]at hj
   cases j with
   | zero=>exact h
   | succ j=>exact ih j (by simpa using hj)
  ·rw[if_neg (by simpa using h)]at hj
   simp at hj
theorem y50 (l:List Aid) (n:Int):upto l n<l.length->¬ (l.getD (upto l n) default).Number<n:=by
 unfold upto
 induction l with
 | nil=>intro h;simp at h
 | cons x l ih=>
  intro hj;rw[List.takeWhile_cons]at hj ⊢;by_cases h:x.Number<n
  ·rw[if_pos (decide_eq_true h)]at hj ⊢
   exact ih (by simpa using hj)
  ·rw[if_neg (by simpa using h)]
   exact h
theorem yst {l:List Aid} (h:l.Pairwise ltA) {i j:Nat} (hij:i<j) (hj:j<l.length):(l.getD i default).Number<(l.getD j default).Number:=by
 have:=List.pairwise_iff_getElem.1 h i j (by omega) hj hij;rw[List.getD_eq_getElem?_getD,List.getD_eq_getElem?_getD,List.getElem?_eq_getElem hj,List.getElem?_eq_getElem (show i<l.length by omega)];exact this
def hasN (l:List Aid) (n:Int):Bool:=decide (upto l n<l.length) && ((l.getD (upto l n) default).Number == n)
theorem yf0 {l:List Aid} {n:Int} (h:hasN l n=true):upto l n<l.length/\(l.getD (upto l n) default).Number=n:=by
 unfold hasN at h;simpa using h
theorem yyi (l:List Aid) (n:Int) (hl:l.length<9223372036854775808):zq l n=((upto l n:Int),hasN l n):=y3q l n hl
def okP (P:Aid->Prop) (l:List Aid):Prop:=okA l/\∀ v∈l,P v
theorem yvu (P:Aid->Prop) {l t:List Aid} {a:Aid} (hl:okP P l) (ha:zeb a=true/\P a) (h:zub l a=(t,0)):okP P t:=by
 have hl':=hl.1.2.2;rw[yuh l a (by omega)]at h;change (bif hasN l a.Number then([],4)else _)=_ at h
 cases hn:hasN l a.Number with
 | true=>rw[hn]at h;simp at h
 | false=>
  rw[hn,cond_false]at h
  cases h24:((l.length:Int) == 24)with
  | true=>rw[h24]at h;simp at h
  | false=>
   rw[h24,cond_false]at h;simp only[Prod.mk.injEq,and_true]at h;subst h
   have hne:l.length≠24:=by
    intro e;rw[e]at h24;simp at h24
   have hu:=ywk l a.Number
   have hmem:∀ v,v∈putA l a->v∈l\/v=a:=by
    intro v hv;simp only[putA,List.mem_append,List.mem_singleton]at hv;rcases hv with(hv|hv)|hv
    ·exact .inl (List.mem_of_mem_take hv)
    ·exact .inr hv
    ·exact .inl (List.mem_of_mem_drop hv)
   refine⟨⟨fun v hv => ?_,?_,?_⟩,fun v hv => ?_⟩
   ·rcases hmem v hv with h|rfl
    ·exact hl.1.1 v h
    ·exact ha.1
   ·have hpw:=hl.1.2.1
    have h0:l.take (upto l a.Number)++l.drop (upto l a.Number)=l:=List.take_append_drop _ _;have hp2:(l.take (upto l a.Number)++l.drop (upto l a.Number)).Pairwise ltA:=by rw[h0];exact hpw
    rw[List.pairwise_append]at hp2;obtain⟨p1,p2,p3⟩:=hp2
    have hlo:∀ x∈l.take (upto l a.Number),ltA x a:=by
     intro x hx;obtain⟨j,hj,rfl⟩:=List.getElem_of_mem hx;have hj':j<upto l a.Number:=by simp at hj;omega
     have:=yf1 l a.Number j hj';rw[List.getD_eq_getElem?_getD,List.getElem?_eq_getElem (show j<l.length by omega)]at this;simp only[List.getElem_take];exact this
    have hhi:∀ x∈l.drop (upto l a.Number),ltA a x:=by
     intro x hx;obtain⟨j,hj,rfl⟩:=List.getElem_of_mem hx;have hj':upto l a.Number+j<l.length:=by simp at hj;omega
     simp only[List.getElem_drop];have h1:=y50 l a.Number (by omega)
     have h2:(l.getD (upto l a.Number) default).Number≠a.Number:=by
      unfold hasN at hn;rw[decide_eq_true (show upto l a.Number<l.length by omega)]at hn;simpa using hn
     unfold ltA
     have h3:(l[upto l a.Number+j]'hj').Number=(l.getD (upto l a.Number+j) default).Number:=by
      rw[List.getD_eq_getElem?_getD,List.getElem?_eq_getElem hj'];rfl
     rw[h3]
     cases j with
     | zero=>simp only[Nat.add_zero];omega
     | succ j=>
      have:=yst hpw (show upto l a.Number<upto l a.Number+(j+1)by omega) hj';omega
    unfold putA;rw[List.append_assoc,List.pairwise_append];refine⟨p1,?_,fun x hx y hy => ?_⟩
    ·rw[List.singleton_append,List.pairwise_cons];exact⟨hhi,p2⟩
    ·rw[List.singleton_append,List.mem_cons]at hy
     rcases hy with rfl|hy
     ·exact hlo x hx
     ·exact p3 x hx y hy
   ·simp[putA];omega
   ·rcases hmem v hv with h|rfl
    ·exact hl.2 v h
    ·exact ha.2
theorem yeo (a b:Character):zud a b=zjf a b:=by
 unfold zud zjf;rfl
theorem yck (a b:Aid):zye a b=zxd a b:=by
 unfold zye zxd;rw[yeo];rfl
def zkf (a0:Notice):Bool:=
 (bif (((!(zjc a0.Number)) || (!(zib a0.Day))) || (!(zg a0.Kind 1 4)))then false else(bif (zsf a0)then((zzb a0.Aid) && (a0.Target == 0))else((zye a0.Aid ({ Number:=0,Name:=[],At:={ X:=0,Y:=0:Point },Height:=0,Mark:={ Kind:=0,Colors:=[],Shape:=[],Topmark:=[]:Mark },Light:={ Kind:=0,Group:=[],Letter:=[],Colors:=[],Period:=0:Character },Sectors:=[],Intensity:=0:Aid })) && (zjc a0.Target))))
namespace N143
theorem DD:DOk Tryz.prog (Go.Ab.DD [(101,dP D_zg),(104,dP D_zjc),(208,dP D_zsf),(209,dP D_zye),(56,dP D_zzb),(92,dP D_zib)]):=ya yrc.e <| ya yrk.e <| ya y1y.e <| ya yuv.e <| ya y6g.e <| ya y0f.e <| ye _
theorem dn:type_of% (And.intro @D_zg.eq_1 <| And.intro @D_zjc.eq_1 <| And.intro @D_zsf.eq_1 <| And.intro @D_zye.eq_1 <| And.intro @D_zzb.eq_1 <| @D_zib.eq_1):=by and_intros<;>intros<;>rfl
theorem ol:type_of% (@zg.eq_1):=@zg.eq_1
theorem den (a0:Notice) (hb0:bdNotice a0):Den Tryz.prog 143 [.agg (yf a0)] (.bool (zkf a0)):=by
 generalize hR:zkf a0=r;unfold zkf at hR;refine di Tryz.func143 Tryz.ntmps143 Tryz.results143 ?_;intro c hL hc hk;obtain⟨hL0,_⟩:=hL;have hw0:bwNotice a0:=yi a0 hL0;clear hL0;simp only[pars,Nat.zero_add];iterate 2 refine rS ?_
 refine AWP.cond rfl (fun hb => ?_) (fun hb => ?_)
 ·replace hR:=ct hR
  refine rS ?_;refine AWP.ret ?_;subst hR;exact es
 ·replace hR:=cf hR
  refine rS ?_;refine AWP.cond rfl (fun hb => ?_) (fun hb => ?_)
  ·replace hR:=ct hR
   refine rS ?_;refine AWP.ret ?_;subst hR;exact es
  ·replace hR:=cf hR
   refine rS ?_;refine AWP.ret ?_;subst hR;exact es
end N143
def D_zkf : DF
 | [x0]=>some (.bool (zkf (rdG yc x0)),false,[wG yf yc x0,bdNotice (rdG yc x0)])
 | _=>none
theorem ycv:OkD Tryz.prog 143 D_zkf:=by unfold D_zkf;exact dk N143.den
def y1i (a0:(List Notice)) (i1:Nat) (s1:Unit):Except (Bool) (Unit):=
 (bif (((!(zkf (a0.getD i1 default))) || (decide (0<(i1:Int)) && (decide (((a0.getD i1 default).Number)<=((a0.getD ((IntKind.wrap .i64 ((i1:Int)-1)).toNat) default).Number)) || decide (((a0.getD i1 default).Day)<((a0.getD ((IntKind.wrap .i64 ((i1:Int)-1)).toNat) default).Day))))) || ((((a0.getD i1 default).Kind) == 4) && (!(zff (a0.getD i1 default) (subL a0 0 (i1))))))then .error false else .ok ())
def zfb (a0:(List Notice)):Bool:=
 (match yh (y1i a0) (a0.length-0) 0 ()with|.error e=>e|.ok s1=>(zkb (a0.length:Int) 32))
namespace N91
theorem DD:DOk Tryz.prog (Go.Ab.DD [(112,dP D_zkb),(143,dP D_zkf),(144,dP D_zff)]):=ya yqf.e <| ya ycv.e <| ya yhy.e <| ye _
theorem dn:type_of% (And.intro @D_zkb.eq_1 <| And.intro @D_zkf.eq_1 <| @D_zff.eq_1):=by and_intros<;>intros<;>rfl
theorem den (a0:(List Notice)) (hb0:a0.length<1099511627776) (hb1:∀ v∈a0,bdNotice v):Den Tryz.prog 91 [encL 20 yf a0] (.bool (zfb a0)):=by
 generalize hR:zfb a0=r;unfold zfb at hR;refine di Tryz.func91 Tryz.ntmps91 Tryz.results91 ?_;intro c hL hc hk;obtain⟨hL0,_⟩:=hL;have hw0:a0.length<9223372036854775808:=Nat.lt_succ_of_le (yb hL0).1;have hw1:∀ v∈a0,bwNotice v:=fun v hv=>yi v ((yb hL0).2 v hv)
 clear hL0;simp only[pars,Nat.zero_add];iterate 2 refine rS ?_
 refine AWP.block ?_;generalize hz1:yh (y1i a0) (a0.length-0) 0 ()=z1 at hR;refine AWP.range (y1i a0) (fun i1 s1=>⟨[(0,encL 20 yf a0),(5,encL 20 yf a0),(6,.int .i64 (a0.length:Int)),(7,.int .i64 (i1:Int))],[]⟩) (fun i1 s1=>True) (a0.length) 0 () [] hz1 ot wt sm ?_;clear hz1;intro i1 s1 hi1 hW1 hz1;refine rS ?_;refine AWP.seq ?_;refine AWP.cond rfl (fun hb => ?_) (fun hb => ?_)
 ·have hlt1:i1<a0.length:=ot
  rw[yp hlt1]at hz1;simp only[y1i]at hz1;refine rS ?_;refine rD 42 ?_;refine AWP.cond rfl (fun hb => ?_) (fun hb => ?_)
  ·simp only[hb,cond_true]at hz1
   refine rS ?_;refine AWP.ret ?_;subst hz1;dsimp only at hR;subst hR;exact es
  ·simp only[hb,cond_false]at hz1
   refine rS ?_;exact⟨_,[],hlt1,wt,hz1,sm⟩
 ·obtain rfl:i1=a0.length:=ot
  rw[yn (Nat.le_refl _)]at hz1;subst hz1;dsimp only at hR;refine AWP.exit ?_;refine yd ?_;refine rS ?_;refine AWP.ret ?_;subst hR;exact es
end N91
def D_zfb : DF
 | [x0]=>some (.bool (zfb (rdL yc x0)),false,[wL 20 yf yc x0,(rdL yc x0).length<1099511627776,∀ v∈(rdL yc x0),bdNotice v])
 | _=>none
theorem yfl:OkD Tryz.prog 91 D_zfb:=by unfold D_zfb;exact dk N91.den
def zvb (a0:Notice):Bool:=
 (bif ((!(zf a0.Number 1 9999)) || (!(zse a0.Day)))then false else(bif (a0.Kind == 1)then((zeb a0.Aid) && (a0.Target == 0))else(bif (a0.Kind == 2)then((zeb a0.Aid) && (a0.Target == 0))else(bif (a0.Kind == 3)then((zxd a0.Aid ({ Number:=0,Name:=[],At:={ X:=0,Y:=0:Point },Height:=0,Mark:={ Kind:=0,Colors:=[],Shape:=[],Topmark:=[]:Mark },Light:={ Kind:=0,Group:=[],Letter:=[],Colors:=[],Period:=0:Character },Sectors:=[],Intensity:=0:Aid })) && (zf a0.Target 1 9999))else(bif (a0.Kind == 4)then((zxd a0.Aid ({ Number:=0,Name:=[],At:={ X:=0,Y:=0:Point },Height:=0,Mark:={ Kind:=0,Colors:=[],Shape:=[],Topmark:=[]:Mark },Light:={ Kind:=0,Group:=[],Letter:=[],Colors:=[],Period:=0:Character },Sectors:=[],Intensity:=0:Aid })) && (zf a0.Target 1 9999))else false)))))
namespace N200
theorem DD:DOk Tryz.prog (Go.Ab.DD [(252,dP D_zse),(65,dP D_zeb),(81,dP D_zf),(93,dP D_zxd)]):=ya ywv.e <| ya y1q.e <| ya yyd.e <| ya yjq.e <| ye _
theorem dn:type_of% (And.intro @D_zse.eq_1 <| And.intro @D_zeb.eq_1 <| And.intro @D_zf.eq_1 <| @D_zxd.eq_1):=by and_intros<;>intros<;>rfl
theorem ol:type_of% (@zf.eq_1):=@zf.eq_1
theorem den (a0:Notice) (hb0:bdNotice a0):Den Tryz.prog 200 [.ep (yf a0)] (.bool (zvb a0)):=by
 generalize hR:zvb a0=r;unfold zvb at hR;refine di Tryz.func200 Tryz.ntmps200 Tryz.results200 ?_;intro c hL hc hk;obtain⟨hL0,_⟩:=hL;have hw0:bwNotice a0:=yi a0 hL0;clear hL0;simp only[pars,Nat.zero_add];iterate 2 refine rS ?_
 refine AWP.cond rfl (fun hb => ?_) (fun hb => ?_)
 ·replace hR:=ct hR
  refine rS ?_;refine AWP.ret ?_;subst hR;exact es
 ·replace hR:=cf hR
  iterate 3 refine rS ?_
  refine AWP.cond rfl (fun hb => ?_) (fun hb => ?_)
  ·replace hR:=ct hR
   refine AWP.skip ?_;refine AWP.cond rfl (fun hb => ?_) (fun hb => ?_)
   ·refine rS ?_
    refine AWP.ret ?_;subst hR;exact es
   ·exfalso;simp_all
  ·replace hR:=cf hR
   refine rS ?_;refine AWP.cond rfl (fun hb => ?_) (fun hb => ?_)
   ·replace hR:=ct hR
    refine rS ?_;refine AWP.ret ?_;subst hR;exact es
   ·replace hR:=cf hR
    refine rS ?_;refine AWP.cond rfl (fun hb => ?_) (fun hb => ?_)
    ·replace hR:=ct hR
     refine AWP.skip ?_;refine AWP.cond rfl (fun hb => ?_) (fun hb => ?_)
     ·refine rS ?_
      refine AWP.ret ?_;subst hR;exact es
     ·exfalso;simp_all
    ·replace hR:=cf hR
     refine rS ?_;refine AWP.cond rfl (fun hb => ?_) (fun hb => ?_)
     ·replace hR:=ct hR
      refine rS ?_;refine AWP.ret ?_;subst hR;exact es
     ·replace hR:=cf hR
      refine rS ?_;refine AWP.ret ?_;subst hR;exact es
end N200
def D_zvb : DF
 | [x0]=>some (.bool (zvb (rdP yc x0)),false,[wP yf yc x0,bdNotice (rdP yc x0)])
 | _=>none
theorem yxp:OkD Tryz.prog 200 D_zvb:=by unfold D_zvb;exact dk N200.den
def yte (a0:(List Notice)) (i1:Nat) (s1:Unit):Except (Bool) (Unit):=
 (bif (((!(zvb (a0.getD i1 default))) || (decide (0<(i1:Int)) && (decide (((a0.getD i1 default).Number)<=((a0.getD ((IntKind.wrap .i64 ((i1:Int)-1)).toNat) default).Number)) || decide (((a0.getD i1 default).Day)<((a0.getD ((IntKind.wrap .i64 ((i1:Int)-1)).toNat) default).Day))))) || (!(ztb (subL a0 0 (i1)) (a0.getD i1 default))))then .error false else .ok ())
def zcb (a0:(List Notice)):Bool:=
 (match yh (yte a0) (a0.length-0) 0 ()with|.error e=>e|.ok s1=>decide ((a0.length:Int)<=32))
namespace N199
theorem DD:DOk Tryz.prog (Go.Ab.DD [(200,dP D_zvb),(201,dP D_ztb)]):=ya yxp.e <| ya yoq.e <| ye _
theorem dn:type_of% (And.intro @D_zvb.eq_1 <| @D_ztb.eq_1):=by and_intros<;>intros<;>rfl
theorem den (a0:(List Notice)) (hb0:a0.length<1099511627776) (hb1:∀ v∈a0,bdNotice v):Den Tryz.prog 199 [encL 20 yf a0] (.bool (zcb a0)):=by
 generalize hR:zcb a0=r;unfold zcb at hR;refine di Tryz.func199 Tryz.ntmps199 Tryz.results199 ?_;intro c hL hc hk;obtain⟨hL0,_⟩:=hL;have hw0:a0.length<9223372036854775808:=Nat.lt_succ_of_le (yb hL0).1;have hw1:∀ v∈a0,bwNotice v:=fun v hv=>yi v ((yb hL0).2 v hv)
 clear hL0;simp only[pars,Nat.zero_add];iterate 2 refine rS ?_
 refine AWP.block ?_;generalize hz1:yh (yte a0) (a0.length-0) 0 ()=z1 at hR;refine AWP.range (yte a0) (fun i1 s1=>⟨[(0,encL 20 yf a0),(3,.int .i64 (i1:Int))],[]⟩) (fun i1 s1=>True) (a0.length) 0 () [] hz1 ot wt sm ?_;clear hz1;intro i1 s1 hi1 hW1 hz1;refine rS ?_;refine AWP.cond rfl (fun hb => ?_) (fun hb => ?_)
 ·have hlt1:i1<a0.length:=ot
  rw[yp hlt1]at hz1;simp only[yte]at hz1;refine rS ?_;refine rD 41 ?_;refine AWP.cond rfl (fun hb => ?_) (fun hb => ?_)
  ·simp only[hb,cond_true]at hz1
   refine rS ?_;refine AWP.ret ?_;subst hz1;dsimp only at hR;subst hR;exact es
  ·simp only[hb,cond_false]at hz1
   refine rS ?_;exact⟨_,[],hlt1,wt,hz1,sm⟩
 ·obtain rfl:i1=a0.length:=ot
  rw[yn (Nat.le_refl _)]at hz1;subst hz1;dsimp only at hR;refine AWP.exit ?_;refine yd ?_;refine rS ?_;refine AWP.ret ?_;subst hR;exact es
end N199
def D_zcb : DF
 | [x0]=>some (.bool (zcb (rdL yc x0)),false,[wL 20 yf yc x0,(rdL yc x0).length<1099511627776,∀ v∈(rdL yc x0),bdNotice v])
 | _=>none
theorem y4w:OkD Tryz.prog 199 D_zcb:=by unfold D_zcb;exact dk N199.den
end Go.Ab
