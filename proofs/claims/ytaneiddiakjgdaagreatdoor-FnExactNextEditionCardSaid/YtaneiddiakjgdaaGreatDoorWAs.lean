/- A part of a proof: walks of functions and lemmas of our own. No conditions. -/
import Derived.Test.YtaneiddiakjgdaaGreatDoorWAl
import Derived.Test.YtaneiddiakjgdaaGreatDoorWAr
import Derived.Test.YtaneiddiakjgdaaGreatDoorWAo
import Derived.Test.YtaneiddiakjgdaaGreatDoorWAi
import Derived.Test.YtaneiddiakjgdaaGreatDoorWAk
import Derived.Test.YtaneiddiakjgdaaGreatDoorWAp
set_option linter.unusedSectionVars false
set_option linter.unusedVariables false
set_option linter.unusedSimpArgs false
set_option maxHeartbeats 1000000
namespace Go.Ab
open Go Go.Proofs
def zrd (a0:Int):(List (List UInt8)):=
 (zdh (zid a0 ([[],[99,97,110,32,112,105,108,108,97,114,32,115,112,97,114],[99,111,110,101,32,112,105,108,108,97,114,32,115,112,97,114],[112,105,108,108,97,114,32,115,112,97,114],[112,105,108,108,97,114,32,115,112,97,114],[112,105,108,108,97,114,32,115,112,97,114],[112,105,108,108,97,114,32,115,112,97,114],[112,105,108,108,97,114,32,115,112,97,114],[115,112,104,101,114,101,32,112,105,108,108,97,114,32,115,112,97,114],[99,97,110,32,99,111,110,101,32,112,105,108,108,97,114,32,115,112,97,114,32,115,112,104,101,114,101]]:List (List UInt8))))
namespace N199
theorem DD:DOk Tryz.prog (Go.Ab.DD [(232,dP D_zid),(234,dP D_zdh)]):=ya yen.e <| ya ydz.e <| ye _
theorem dn:type_of% (And.intro @D_zid.eq_1 <| @D_zdh.eq_1):=by and_intros<;>intros<;>rfl
theorem o0 {p:Prop} (h:p:=by(first|(and_intros<;>first|exact yes (P:=fun y=>y.length≤1048576) _ _ (by simp) (by simp)|exact yes (P:=fun y=>∀ x∈y,x.toNat<128) _ _ (by simp) (by simp)));first|done|fail):p:=h
theorem lx {p:Prop} (h:p:=by(exact lxx);first|done|fail):p:=h
theorem den (a0:Int)  : Den Tryz.prog 199 [.int .i64 a0] (ownL 9 1 eS (zrd a0)):=by
 generalize hR:zrd a0=r
 unfold zrd at hR
 refine di Tryz.func199 Tryz.ntmps199 Tryz.results199 ?_
 intro c hL hc hk
 clear hL
 simp only[pars,Nat.zero_add]
 iterate 2 refine rS ?_
 refine AWP.ret ?_
 subst hR
 exact es
end N199
def D_zrd : DF
 | [x0]=>some (ownL 9 1 eS (zrd (rdI x0)),false,[wI .i64 x0])
 | _=>none
def Dz_zrd : DF
 | [x0]=>some (ownL 9 1 eS (zrd (rdI x0)),true,[wI .i64 x0])
 | _=>none
theorem yl0:OkD Tryz.prog 199 D_zrd:=by unfold D_zrd;exact dk N199.den
theorem y5u:OkD Tryz.prog 199 Dz_zrd:=by unfold Dz_zrd;exact dk N199.den
end Go.Ab

namespace Go.Ab
open Go Go.Proofs
def ztf (a0:Int):(List UInt8):=
 (zid a0 ([[],[99,97,110],[99,111,110,101],[117,112],[98,97,115,101],[100,111,119,110],[112,111,105,110,116],[98,97,108,108,115],[98,97,108,108],[99,114,111,115,115]]:List (List UInt8)))
namespace N200
theorem DD:DOk Tryz.prog (Go.Ab.DD [(232,dP D_zid)]):=ya yen.e <| ye _
theorem dn:type_of% (@D_zid.eq_1):=by and_intros<;>intros<;>rfl
theorem lx {p:Prop} (h:p:=by(exact lxx);first|done|fail):p:=h
theorem den (a0:Int)  : Den Tryz.prog 200 [.int .i64 a0] (.str (ztf a0)):=by
 generalize hR:ztf a0=r
 unfold ztf at hR
 refine di Tryz.func200 Tryz.ntmps200 Tryz.results200 ?_
 intro c hL hc hk
 clear hL
 simp only[pars,Nat.zero_add]
 iterate 2 refine rS ?_
 refine AWP.ret ?_
 subst hR
 exact es
end N200
def D_ztf : DF
 | [x0]=>some (.str (ztf (rdI x0)),false,[wI .i64 x0])
 | _=>none
theorem yqs:OkD Tryz.prog 200 D_ztf:=by unfold D_ztf;exact dk N200.den
end Go.Ab

namespace Go.Ab
open Go Go.Proofs
def zuf (a0:Mark):Bool:=
 (bif (a0.Kind == 0 && (a0.Colors == [] && (a0.Shape == [] && a0.Topmark == [])))then true else((((zqf a0.Kind) && (a0.Colors == (zsf a0.Kind))) && (zef (zrd a0.Kind) a0.Shape)) && ((a0.Topmark == []) || (a0.Topmark == (ztf a0.Kind)))))
namespace N162
theorem DD:DOk Tryz.prog (Go.Ab.DD [(196,dP D_zqf),(197,dP D_zsf),(198,dP D_zef),(199,dP D_zrd),(200,dP D_ztf)]):=ya y9s.e <| ya ybt.e <| ya yos.e <| ya yl0.e <| ya yqs.e <| ye _
theorem DZ:DOk Tryz.prog (Go.Ab.DD [(196,dP D_zqf),(197,dP D_zsf),(198,dP D_zef),(199,dP Dz_zrd),(200,dP D_ztf)]):=ya y9s.e <| ya ybt.e <| ya yos.e <| ya y5u.e <| ya yqs.e <| ye _
theorem dn:type_of% (And.intro @D_zqf.eq_1 <| And.intro @D_zsf.eq_1 <| And.intro @D_zef.eq_1 <| And.intro @D_zrd.eq_1 <| And.intro @D_ztf.eq_1 <| @Dz_zrd.eq_1):=by and_intros<;>intros<;>rfl
theorem den (a0:Mark) (hb0:bdMark a0):Den Tryz.prog 162 [.agg (eMark a0)] (.bool (zuf a0)):=by
 generalize hR:zuf a0=r
 unfold zuf at hR
 refine di Tryz.func162 Tryz.ntmps162 Tryz.results162 ?_
 intro c hL hc hk
 obtain⟨hL0,_⟩:=hL
 have hw0:bwMark a0:=ysd a0 hL0
 clear hL0
 simp only[pars,Nat.zero_add]
 iterate 2 refine rS ?_
 refine AWP.cond rfl (fun hb => ?_) (fun hb => ?_)
 ·replace hR:=ct hR
  refine rS ?_
  refine AWP.ret ?_
  subst hR
  exact es
 ·replace hR:=cf hR
  refine rZ 32 ?_
  refine AWP.ret ?_
  subst hR
  exact es
end N162
def D_zuf : DF
 | [x0]=>some (.bool (zuf (rdG ymf x0)),false,[wG eMark ymf x0,bdMark (rdG ymf x0)])
 | _=>none
theorem ydy:OkD Tryz.prog 162 D_zuf:=by unfold D_zuf;exact dk N162.den
end Go.Ab

namespace Go.Ab
open Go Go.Proofs
def y3l (a0:(List Int)) (a1:(List Int)) (i1:Nat) (s1:Unit):Except (Bool) (Unit):=
 (bif ((a0.getD i1 default) != (a1.getD i1 default))then .error false else .ok ())
def zsd (a0:(List Int)) (a1:(List Int)):Bool:=
 (bif ((a0.length:Int) != (a1.length:Int))then false else(match yh (y3l a0 a1) (a0.length-0) 0 ()with|.error e=>e|.ok s1=>true))
namespace N219
theorem DD:DOk Tryz.prog (Go.Ab.DD []):=ye _
theorem den (a0:(List Int)) (a1:(List Int))  : Den Tryz.prog 219 [encL 1 yp a0,encL 1 yp a1] (.bool (zsd a0 a1)):=by
 generalize hR:zsd a0 a1=r
 unfold zsd at hR
 refine di Tryz.func219 Tryz.ntmps219 Tryz.results219 ?_
 intro c hL hc hk
 obtain⟨hL0,hL1,_⟩:=hL
 have hw0:a0.length<9223372036854775808:=Nat.lt_succ_of_le (yb hL0).1
 have hw1:a1.length<9223372036854775808:=Nat.lt_succ_of_le (yb hL1).1
 clear hL0 hL1
 simp only[pars,Nat.zero_add]
 iterate 2 refine rS ?_
 refine AWP.cond rfl (fun hb => ?_) (fun hb => ?_)
 ·replace hR:=ct hR
  refine rS ?_
  refine AWP.ret ?_
  subst hR
  exact es
 ·replace hR:=cf hR
  refine rS ?_
  refine AWP.block ?_
  generalize hz1:yh (y3l a0 a1) (a0.length-0) 0 ()=z1 at hR
  refine AWP.range (y3l a0 a1) (fun i1 s1=>⟨[(0,encL 1 yp a0),(1,encL 1 yp a1),(12,.int .i64 (a0.length:Int)),(13,.int .i64 (i1:Int))],[]⟩) (fun i1 s1=>True) (a0.length) 0 () [] hz1 ot wt sm ?_
  clear hz1
  intro i1 s1 hi1 hW1 hz1
  refine rS ?_
  refine AWP.seq ?_
  refine AWP.cond rfl (fun hb => ?_) (fun hb => ?_)
  ·have hlt1:i1<a0.length:=ot
   rw[yj hlt1]at hz1;simp only[y3l]at hz1
   refine rS ?_
   refine rD 8 ?_
   refine AWP.cond rfl (fun hb => ?_) (fun hb => ?_)
   ·simp only[hb,cond_true]at hz1
    refine rS ?_
    refine AWP.ret ?_
    subst hz1
    dsimp only at hR
    subst hR
    exact es
   ·simp only[hb,cond_false]at hz1
    refine rS ?_
    exact⟨_,[],hlt1,wt,hz1,sm⟩
  ·obtain rfl:i1=a0.length:=ot
   rw[yi (Nat.le_refl _)]at hz1;subst hz1;dsimp only at hR
   refine AWP.exit ?_;refine yd ?_
   refine rS ?_
   refine AWP.ret ?_
   subst hR
   exact es
end N219
def D_zsd : DF
 | [x0,x1]=>some (.bool (zsd (rdL ylb x0) (rdL ylb x1)),false,[wL 1 yp ylb x0,wL 1 yp ylb x1])
 | _=>none
theorem ylx:OkD Tryz.prog 219 D_zsd:=by unfold D_zsd;exact dk N219.den
end Go.Ab

namespace Go.Ab
open Go Go.Proofs
theorem y2k (a b:List Int):zsd a b=decide (a=b):=by
 unfold zsd
 by_cases hl:a.length=b.length
 ·have h1:((a.length:Int) != (b.length:Int))=false:=by simp[hl]
  rw[h1,cond_false,ykc (b:=y3l a b) (fun j => !decide (a.getD j default=b.getD j default)) false (fun j u _ _=>by simp only[y3l,ned])]
  simp only[Nat.sub_zero,Nat.zero_add]
  rw[ycl a b hl]
  by_cases h:a=b<;>simp[h]
 ·have h1:((a.length:Int) != (b.length:Int))=true:=by simp;omega
  have h2:¬ a=b:=fun e=>hl (by rw[e])
  rw[h1,cond_true,decide_eq_false h2]
end Go.Ab

namespace Go.Ab
open Go Go.Proofs
def zrc (a0:Int):Bool:=
 (zb a0 1 9999)
namespace N158
theorem DD:DOk Tryz.prog (Go.Ab.DD [(139,dP D_zb)]):=ya ygd.e <| ye _
theorem dn:type_of% (@D_zb.eq_1):=by and_intros<;>intros<;>rfl
theorem ol:type_of% (@zb.eq_1):=@zb.eq_1
theorem den (a0:Int)  : Den Tryz.prog 158 [.int .i64 a0] (.bool (zrc a0)):=by
 generalize hR:zrc a0=r
 unfold zrc at hR
 refine di Tryz.func158 Tryz.ntmps158 Tryz.results158 ?_
 intro c hL hc hk
 clear hL
 simp only[pars,Nat.zero_add]
 iterate 2 refine rS ?_
 refine AWP.ret ?_
 subst hR
 exact es
end N158
def D_zrc : DF
 | [x0]=>some (.bool (zrc (rdI x0)),false,[wI .i64 x0])
 | _=>none
theorem yrm:OkD Tryz.prog 158 D_zrc:=by unfold D_zrc;exact dk N158.den
end Go.Ab

namespace Go.Ab
open Go Go.Proofs
def zqg (a0:Point):Bool:=
 ((zb a0.X 0 200000) && (zb a0.Y 0 200000))
namespace N160
theorem DD:DOk Tryz.prog (Go.Ab.DD [(139,dP D_zb)]):=ya ygd.e <| ye _
theorem dn:type_of% (@D_zb.eq_1):=by and_intros<;>intros<;>rfl
theorem ol:type_of% (@zb.eq_1):=@zb.eq_1
theorem den (a0:Point)  : Den Tryz.prog 160 [.agg (ePoint a0)] (.bool (zqg a0)):=by
 generalize hR:zqg a0=r
 unfold zqg at hR
 refine di Tryz.func160 Tryz.ntmps160 Tryz.results160 ?_
 intro c hL hc hk
 clear hL
 simp only[pars,Nat.zero_add]
 iterate 2 refine rS ?_
 refine AWP.ret ?_
 subst hR
 exact es
end N160
def D_zqg : DF
 | [x0]=>some (.bool (zqg (rdG y6e x0)),false,[wG ePoint y6e x0])
 | _=>none
theorem yux:OkD Tryz.prog 160 D_zqg:=by unfold D_zqg;exact dk N160.den
end Go.Ab

namespace Go.Ab
open Go Go.Proofs
def zrg (a0:Int):Bool:=
 (zb a0 0 3000)
namespace N161
theorem DD:DOk Tryz.prog (Go.Ab.DD [(139,dP D_zb)]):=ya ygd.e <| ye _
theorem dn:type_of% (@D_zb.eq_1):=by and_intros<;>intros<;>rfl
theorem ol:type_of% (@zb.eq_1):=@zb.eq_1
theorem den (a0:Int)  : Den Tryz.prog 161 [.int .i64 a0] (.bool (zrg a0)):=by
 generalize hR:zrg a0=r
 unfold zrg at hR
 refine di Tryz.func161 Tryz.ntmps161 Tryz.results161 ?_
 intro c hL hc hk
 clear hL
 simp only[pars,Nat.zero_add]
 iterate 2 refine rS ?_
 refine AWP.ret ?_
 subst hR
 exact es
end N161
def D_zrg : DF
 | [x0]=>some (.bool (zrg (rdI x0)),false,[wI .i64 x0])
 | _=>none
theorem yey:OkD Tryz.prog 161 D_zrg:=by unfold D_zrg;exact dk N161.den
end Go.Ab

namespace Go.Ab
open Go Go.Proofs
def zsg (a0:Int):Bool:=
 (zb a0 1 100000000)
namespace N202
theorem DD:DOk Tryz.prog (Go.Ab.DD [(139,dP D_zb)]):=ya ygd.e <| ye _
theorem dn:type_of% (@D_zb.eq_1):=by and_intros<;>intros<;>rfl
theorem ol:type_of% (@zb.eq_1):=@zb.eq_1
theorem den (a0:Int)  : Den Tryz.prog 202 [.int .i64 a0] (.bool (zsg a0)):=by
 generalize hR:zsg a0=r
 unfold zsg at hR
 refine di Tryz.func202 Tryz.ntmps202 Tryz.results202 ?_
 intro c hL hc hk
 clear hL
 simp only[pars,Nat.zero_add]
 iterate 2 refine rS ?_
 refine AWP.ret ?_
 subst hR
 exact es
end N202
def D_zsg : DF
 | [x0]=>some (.bool (zsg (rdI x0)),false,[wI .i64 x0])
 | _=>none
theorem yf0:OkD Tryz.prog 202 D_zsg:=by unfold D_zsg;exact dk N202.den
end Go.Ab

namespace Go.Ab
open Go Go.Proofs
def zke (a0:Character) (a1:Character):Bool:=
 (((((a0.Kind == a1.Kind) && (zsd a0.Group a1.Group)) && (a0.Letter == a1.Letter)) && (a0.Colors == a1.Colors)) && (a0.Period == a1.Period))
namespace N185
theorem DD:DOk Tryz.prog (Go.Ab.DD [(219,dP D_zsd)]):=ya ylx.e <| ye _
theorem dn:type_of% (@D_zsd.eq_1):=by and_intros<;>intros<;>rfl
theorem den (a0:Character) (a1:Character)  : Den Tryz.prog 185 [.agg (eCharacter a0),.agg (eCharacter a1)] (.bool (zke a0 a1)):=by
 generalize hR:zke a0 a1=r
 unfold zke at hR
 refine di Tryz.func185 Tryz.ntmps185 Tryz.results185 ?_
 intro c hL hc hk
 obtain⟨hL0,hL1,_⟩:=hL
 have hw0:bwCharacter a0:=yq a0 hL0
 have hw1:bwCharacter a1:=yq a1 hL1
 clear hL0 hL1
 simp only[pars,Nat.zero_add]
 iterate 2 refine rS ?_
 refine AWP.ret ?_
 subst hR
 exact es
end N185
def D_zke : DF
 | [x0,x1]=>some (.bool (zke (rdG yf x0) (rdG yf x1)),false,[wG eCharacter yf x0,wG eCharacter yf x1])
 | _=>none
theorem ytr:OkD Tryz.prog 185 D_zke:=by unfold D_zke;exact dk N185.den
end Go.Ab

namespace Go.Ab
open Go Go.Proofs
def zeg (a0:Aid):Bool:=
 (((zke a0.Light ({ Kind:=0,Group:=[],Letter:=[],Colors:=[],Period:=0:Character })) && ((a0.Sectors.length:Int) == 0)) && (a0.Intensity == 0))
namespace N164
theorem DD:DOk Tryz.prog (Go.Ab.DD [(185,dP D_zke)]):=ya ytr.e <| ye _
theorem dn:type_of% (@D_zke.eq_1):=by and_intros<;>intros<;>rfl
theorem den (a0:Aid)  : Den Tryz.prog 164 [.agg (eAid a0)] (.bool (zeg a0)):=by
 generalize hR:zeg a0=r
 unfold zeg at hR
 refine di Tryz.func164 Tryz.ntmps164 Tryz.results164 ?_
 intro c hL hc hk
 obtain⟨hL0,_⟩:=hL
 have hw0:bwAid a0:=yt a0 hL0
 clear hL0
 simp only[pars,Nat.zero_add]
 iterate 2 refine rS ?_
 refine AWP.ret ?_
 subst hR
 exact es
end N164
def D_zeg : DF
 | [x0]=>some (.bool (zeg (rdG dAid x0)),false,[wG eAid dAid x0])
 | _=>none
theorem yw0:OkD Tryz.prog 164 D_zeg:=by unfold D_zeg;exact dk N164.den
end Go.Ab

namespace Go.Ab
open Go Go.Proofs
def y2w (a0:(List Aid)) (a1:Int) (s1:Int):Except (Sum ((Int×Bool)) (Int)) (Int):=
 (bif (decide (s1<(a0.length:Int)) && decide (((a0.getD ((s1).toNat) default).Number)<a1))then .ok (IntKind.wrap .i64 (s1+1))else .error (.inr s1))
def zh (a0:(List Aid)) (a1:Int):(Int×Bool):=
 (match yyd (y2w a0 a1) ((a0.length-((0:Int)).toNat)+1) 0 with|.error (.inl e)=>e|.error (.inr s1)=>(s1,(decide (s1<(a0.length:Int)) && (((a0.getD ((s1).toNat) default).Number) == a1)))|.ok _=>default)
namespace N94
theorem DD:DOk Tryz.prog (Go.Ab.DD []):=ye _
theorem den (a0:(List Aid)) (a1:Int)  : Den Tryz.prog 94 [encL 16 eAid a0,.int .i64 a1] (.tup [.int .i64 ((zh a0 a1).1),.bool ((zh a0 a1).2)]):=by
 generalize hR:zh a0 a1=r
 unfold zh at hR
 refine di Tryz.func94 Tryz.ntmps94 Tryz.results94 ?_
 intro c hL hc hk
 obtain⟨hL0,hL1,_⟩:=hL
 have hw0:a0.length<9223372036854775808:=Nat.lt_succ_of_le (yb hL0).1
 have hw1:∀ v∈a0,bwAid v:=fun v hv=>yt v ((yb hL0).2 v hv)
 clear hL0 hL1
 simp only[pars,Nat.zero_add]
 iterate 2 refine rS ?_
 refine AWP.seq ?_
 refine AWP.block ?_
 generalize hz1:yyd (y2w a0 a1) ((a0.length-((0:Int)).toNat)+1) 0=z1 at hR
 refine AWP.whileW (y2w a0 a1) (fun s1=>⟨[(0,encL 16 eAid a0),(1,.int .i64 a1),(6,.int .i64 s1)],[]⟩) (fun s1=>0≤s1∧s1≤a0.length) (fun s1=>a0.length-(s1).toNat) ((a0.length-((0:Int)).toNat)+1) 0 [] hz1 m0 wt sm ?_
 clear hz1
 intro s1 k1 hW1 hm1 hz1
 simp only[y2w]at hz1
 refine rS ?_
 refine AWP.cond rfl (fun hb => ?_) (fun hb => ?_)
 ·simp only[hb,cond_true]at hz1
  refine rS ?_
  exact⟨_,[],ms,wt,hz1,sm⟩
 ·simp only[hb,cond_false]at hz1
  refine AWP.exit ?_
  refine yd ?_
  subst hz1;dsimp only at hR
  refine AWP.seq ?_
  refine AWP.regP mixed G_ok DD hc 15 [0,1,2,3,4,5,6,7,8,9,10,11,12,13] (.alt 14 [] [6,7,8,9,10,11,12,13] .leaf .stop) (by kernel_rfl) (by kernel_rfl) (by kernel_rfl) (fun K hK => ?_);simp only[yqi,runN,runP,yrc,nthO,ea,absV,absVL,cput,gv,sv,dn,reduceCtorEq,reduceIte,Nat.reduceBEq,Nat.reduceAdd,Nat.reduceEqDiff,Nat.reduceLT,Nat.reduceLeDiff,Nat.reduceMul,Nat.reduceSub,BEq.rfl,beq_self_eq_true,Int.reduceToNat]
  repeat' apply And.intro
  all_goals first|refine hK _ ?_|exact ot
  all_goals clear hK K
  refine AWP.ret ?_
  subst hR
  exact es
end N94
def D_zh : DF
 | [x0,x1]=>some (.tup [.int .i64 ((zh (rdL dAid x0) (rdI x1)).1),.bool ((zh (rdL dAid x0) (rdI x1)).2)],false,[wL 16 eAid dAid x0,wI .i64 x1])
 | _=>none
theorem y7q:OkD Tryz.prog 94 D_zh:=by unfold D_zh;exact dk N94.den
end Go.Ab

namespace Go.Ab
open Go Go.Proofs
def upto (l:List Aid) (n:Int):Nat:=(l.takeWhile (fun x=>decide (x.Number<n))).length
theorem ybn (l:List Aid) (n:Int):upto l n≤l.length:=by unfold upto;exact(List.takeWhile_prefix _).length_le
theorem y6q {ρ : Type} (l : List Aid) (n : Int) (hl : l.length < 9223372036854775808) (b : Int → Except (Sum ρ Int) Int)
  (hb:∀ s,b s=bif (decide (s<(l.length:Int)) && decide ((l.getD s.toNat default).Number<n))then .ok (IntKind.wrap .i64 (s+1))else .error (.inr s)) :
  ∀ (r p:List Aid) (k:Nat),l=p++r→r.length<k→yyd b k (p.length:Int)=.error (.inr ((p.length+upto r n:Nat):Int))
 | _,_,0,_,h=>absurd h (Nat.not_lt_zero _)
 | [],p,k+1,e,_=>by
  subst e
  simp only[yyd,hb,List.append_nil,Int.lt_irrefl,decide_false,Bool.false_and,cond_false]
  simp[upto]
 | x::r,p,k+1,e,hk=>by
  have hg:l.getD ((p.length:Int)).toNat default=x:=by subst e;simp
  have hlt:decide ((p.length:Int)<(l.length:Int))=true:=by subst e;simp;omega
  simp only[yyd,hb,hg,hlt,Bool.true_and]
  cases hx:decide (x.Number<n)with
  | false=>simp[upto,List.takeWhile_cons,hx]
  | true=>
   have hw:IntKind.wrap .i64 ((p.length:Int)+1)=((p++[x]).length:Int):=by
    have:p.length<l.length:=by subst e;simp
    have e2:(p++[x]).length=p.length+1:=by simp
    rw[IntKind.wrap_i64,e2];omega
   simp only[cond_true,hw]
   rw[y6q l n hl b hb r (p++[x]) k (by simp[e]) (by simp at hk;omega)]
   have e3:(p++[x]).length+upto r n=p.length+upto (x::r) n:=by
    simp[upto,List.takeWhile_cons,hx];omega
   rw[e3]
theorem yan (l:List Aid) (n:Int) (hl:l.length<9223372036854775808):zh l n=((upto l n:Int),decide (upto l n<l.length) && ((l.getD (upto l n) default).Number == n)):=by
 unfold zh
 have:=y6q l n hl (y2w l n) (fun s=>rfl) l [] (l.length-(0:Int).toNat+1) rfl (by simp)
 simp only[List.length_nil,Nat.zero_add]at this
 have e0:((0:Nat):Int)=0:=rfl
 simp only[e0]at this
 rw[this]
 simp
theorem y2q (l:List Aid) (n:Int) (hl:l.length<9223372036854775808):0≤(zh l n).1∧(zh l n).1≤l.length∧((zh l n).2=true→(zh l n).1<l.length):=by
 rw[yan l n hl]
 have:=ybn l n
 refine⟨by simp only;omega,by simp only;omega,fun h => ?_⟩
 simp only[Bool.and_eq_true,decide_eq_true_eq]at h
 simp only;omega
end Go.Ab

namespace Go.Ab
open Go Go.Proofs
def ztg (a0:(List Int)):(List Int):=
 (List.replicate 0 (default:Int))++a0
namespace N144
theorem DD:DOk Tryz.prog (Go.Ab.DD []):=ye _
theorem den (a0:(List Int)) (hb0:a0.length<1099511627776):Den Tryz.prog 144 [encL 1 yp a0] (ownL 2 1 yp (ztg a0)):=by
 generalize hR:ztg a0=r
 unfold ztg at hR
 refine di Tryz.func144 Tryz.ntmps144 Tryz.results144 ?_
 intro c hL hc hk
 obtain⟨hL0,_⟩:=hL
 have hw0:a0.length<9223372036854775808:=Nat.lt_succ_of_le (yb hL0).1
 clear hL0
 simp only[pars,Nat.zero_add]
 iterate 2 refine rS ?_
 refine AWP.ret ?_
 subst hR
 exact es
end N144
def D_ztg : DF
 | [x0]=>some (ownL 2 1 yp (ztg (rdL ylb x0)),false,[wL 1 yp ylb x0,(rdL ylb x0).length<1099511627776])
 | _=>none
theorem ysy:OkD Tryz.prog 144 D_ztg:=by unfold D_ztg;exact dk N144.den
end Go.Ab

namespace Go.Ab
open Go Go.Proofs
def zug (a0:(List Sector)):(List Sector):=
 (List.replicate 0 (default:Sector))++a0
namespace N145
theorem DD:DOk Tryz.prog (Go.Ab.DD []):=ye _
theorem den (a0:(List Sector)) (hb0:a0.length<1099511627776) (hb1:∀ v∈a0,bdSector v):Den Tryz.prog 145 [encL 3 eSector a0] (ownL 180 3 eSector (zug a0)):=by
 generalize hR:zug a0=r
 unfold zug at hR
 refine di Tryz.func145 Tryz.ntmps145 Tryz.results145 ?_
 intro c hL hc hk
 obtain⟨hL0,_⟩:=hL
 have hw0:a0.length<9223372036854775808:=Nat.lt_succ_of_le (yb hL0).1
 have hw1:∀ v∈a0,bwSector v:=fun v hv=>yr v ((yb hL0).2 v hv)
 clear hL0
 simp only[pars,Nat.zero_add]
 iterate 2 refine rS ?_
 refine AWP.ret ?_
 subst hR
 exact es
end N145
def D_zug : DF
 | [x0]=>some (ownL 180 3 eSector (zug (rdL yn x0)),false,[wL 3 eSector yn x0,(rdL yn x0).length<1099511627776,∀ v∈(rdL yn x0),bdSector v])
 | _=>none
theorem yvy:OkD Tryz.prog 145 D_zug:=by unfold D_zug;exact dk N145.den
end Go.Ab

namespace Go.Ab
open Go Go.Proofs
def zic (a0:Aid):Aid:=
 { Number:=a0.Number,Name:=a0.Name,At:=a0.At,Height:=a0.Height,Mark:=a0.Mark,Light:={ Kind:=a0.Light.Kind,Group:=(ztg a0.Light.Group),Letter:=a0.Light.Letter,Colors:=a0.Light.Colors,Period:=a0.Light.Period:Character },Sectors:=(zug a0.Sectors),Intensity:=a0.Intensity:Aid }
namespace N81
theorem DD:DOk Tryz.prog (Go.Ab.DD [(144,dP D_ztg),(145,dP D_zug)]):=ya ysy.e <| ya yvy.e <| ye _
theorem dn:type_of% (And.intro @D_ztg.eq_1 <| @D_zug.eq_1):=by and_intros<;>intros<;>rfl
theorem den (a0:Aid) (hb0:bdAid a0):Den Tryz.prog 81 [.agg (eAid a0)] (.agg (ygb (zic a0))):=by
 generalize hR:zic a0=r
 unfold zic at hR
 refine di Tryz.func81 Tryz.ntmps81 Tryz.results81 ?_
 intro c hL hc hk
 obtain⟨hL0,_⟩:=hL
 have hw0:bwAid a0:=yt a0 hL0
 clear hL0
 simp only[pars,Nat.zero_add]
 refine rS ?_
 refine AWP.seq ?_
 refine AWP.regP mixed G_ok DD hc 9 [0,1,2,4,5] (.alt 3 [7,8] [4,5,7,8] (.alt 6 [] [7,8] .leaf .stop) .stop) (by kernel_rfl) (by kernel_rfl) (by kernel_rfl) (fun K hK => ?_);simp only[yqi,runN,runP,yrc,nthO,ea,absV,absVL,cput,gv,sv,dn,reduceCtorEq,reduceIte,Nat.reduceBEq,Nat.reduceAdd,Nat.reduceEqDiff,Nat.reduceLT,Nat.reduceLeDiff,Nat.reduceMul,Nat.reduceSub,BEq.rfl,beq_self_eq_true,Int.reduceToNat]
 repeat' apply And.intro
 all_goals first|refine hK _ ?_|exact ot
 all_goals clear hK K
 refine rS ?_
 refine AWP.ret ?_
 subst hR
 exact es
end N81
def D_zic : DF
 | [x0]=>some (.agg (ygb (zic (rdG dAid x0))),false,[wG eAid dAid x0,bdAid (rdG dAid x0)])
 | _=>none
theorem ywi:OkD Tryz.prog 81 D_zic:=by unfold D_zic;exact dk N81.den
end Go.Ab

namespace Go.Ab
open Go Go.Proofs
def yeu (a0:(List Aid)) (i1:Nat) (s1:List Aid):Except ((List Aid)) (List Aid):=
 .ok (s1++[zic (a0.getD i1 default)])
def zx (a0:(List Aid)):(List Aid):=
 (match yh (yeu a0) (a0.length-0) 0 (List.replicate 0 (default:Aid))with|.error e=>e|.ok s1=>s1)
namespace N96
theorem DD:DOk Tryz.prog (Go.Ab.DD [(81,dP D_zic)]):=ya ywi.e <| ye _
theorem dn:type_of% (@D_zic.eq_1):=by and_intros<;>intros<;>rfl
theorem den (a0:(List Aid)) (hb0:a0.length<1099511627776) (hb1:∀ v∈a0,bdAid v) (hp0:a0.length≤1073741824):Den Tryz.prog 96 [encL 16 eAid a0] (ownL 63 16 ygb (zx a0)):=by
 generalize hR:zx a0=r
 unfold zx at hR
 refine di Tryz.func96 Tryz.ntmps96 Tryz.results96 ?_
 intro c hL hc hk
 obtain⟨hL0,_⟩:=hL
 have hw0:a0.length<9223372036854775808:=Nat.lt_succ_of_le (yb hL0).1
 have hw1:∀ v∈a0,bwAid v:=fun v hv=>yt v ((yb hL0).2 v hv)
 clear hL0
 simp only[pars,Nat.zero_add]
 iterate 3 refine rS ?_
 refine AWP.block ?_
 generalize hz1:yh (yeu a0) (a0.length-0) 0 (List.replicate 0 (default:Aid))=z1 at hR
 refine AWP.range (yeu a0) (fun i1 s1=>⟨[(3,.ref 0 16 0 s1.length),(10,encL 16 eAid a0),(11,.int .i64 (a0.length:Int)),(12,.int .i64 (i1:Int))],[.arr 63 16 s1.length (fun j=>ygb (s1.getD j default))]⟩) (fun i1 s1=>s1.length≤(List.replicate 0 (default:Aid)).length+1 * i1) (a0.length) 0 (List.replicate 0 (default:Aid)) [0] hz1 ot wt sm ?_
 clear hz1
 intro i1 s1 hi1 hW1 hz1
 refine rS ?_
 refine AWP.seq ?_
 refine AWP.cond rfl (fun hb => ?_) (fun hb => ?_)
 ·have hlt1:i1<a0.length:=ot
  rw[yj hlt1]at hz1;simp only[yeu]at hz1
  iterate 3 refine rS ?_
  exact⟨_,[5],hlt1,wt,hz1,sm⟩
 ·obtain rfl:i1=a0.length:=ot
  rw[yi (Nat.le_refl _)]at hz1;subst hz1;dsimp only at hR
  refine AWP.exit ?_;refine yd ?_
  refine rS ?_
  refine AWP.ret ?_
  subst hR
  exact es
end N96
def D_zx : DF
 | [x0]=>some (ownL 63 16 ygb (zx (rdL dAid x0)),false,[wL 16 eAid dAid x0,(rdL dAid x0).length<1099511627776,∀ v∈(rdL dAid x0),bdAid v,(rdL dAid x0).length≤1073741824])
 | _=>none
theorem yim:OkD Tryz.prog 96 D_zx:=by unfold D_zx;exact dk N96.den
end Go.Ab

namespace Go.Ab
open Go Go.Proofs
def y2r (a0:(List Sector)) (a1:(List Sector)) (i1:Nat) (s1:Unit):Except (Bool) (Unit):=
 (bif (!(((a0.getD i1 default).From) == ((a1.getD i1 default).From) && (((a0.getD i1 default).To) == ((a1.getD i1 default).To) && ((a0.getD i1 default).Color) == ((a1.getD i1 default).Color))))then .error false else .ok ())
def zte (a0:(List Sector)) (a1:(List Sector)):Bool:=
 (bif ((a0.length:Int) != (a1.length:Int))then false else(match yh (y2r a0 a1) (a0.length-0) 0 ()with|.error e=>e|.ok s1=>true))
namespace N186
theorem DD:DOk Tryz.prog (Go.Ab.DD []):=ye _
theorem den (a0:(List Sector)) (a1:(List Sector))  : Den Tryz.prog 186 [encL 3 eSector a0,encL 3 eSector a1] (.bool (zte a0 a1)):=by
 generalize hR:zte a0 a1=r
 unfold zte at hR
 refine di Tryz.func186 Tryz.ntmps186 Tryz.results186 ?_
 intro c hL hc hk
 obtain⟨hL0,hL1,_⟩:=hL
 have hw0:a0.length<9223372036854775808:=Nat.lt_succ_of_le (yb hL0).1
 have hw1:∀ v∈a0,bwSector v:=fun v hv=>yr v ((yb hL0).2 v hv)
 have hw2:a1.length<9223372036854775808:=Nat.lt_succ_of_le (yb hL1).1
 have hw3:∀ v∈a1,bwSector v:=fun v hv=>yr v ((yb hL1).2 v hv)
 clear hL0 hL1
 simp only[pars,Nat.zero_add]
 iterate 2 refine rS ?_
 refine AWP.cond rfl (fun hb => ?_) (fun hb => ?_)
 ·replace hR:=ct hR
  refine rS ?_
  refine AWP.ret ?_
  subst hR
  exact es
 ·replace hR:=cf hR
  refine rS ?_
  refine AWP.block ?_
  generalize hz1:yh (y2r a0 a1) (a0.length-0) 0 ()=z1 at hR
  refine AWP.range (y2r a0 a1) (fun i1 s1=>⟨[(0,encL 3 eSector a0),(1,encL 3 eSector a1),(12,.int .i64 (a0.length:Int)),(13,.int .i64 (i1:Int))],[]⟩) (fun i1 s1=>True) (a0.length) 0 () [] hz1 ot wt sm ?_
  clear hz1
  intro i1 s1 hi1 hW1 hz1
  refine rS ?_
  refine AWP.seq ?_
  refine AWP.cond rfl (fun hb => ?_) (fun hb => ?_)
  ·have hlt1:i1<a0.length:=ot
   rw[yj hlt1]at hz1;simp only[y2r]at hz1
   refine rS ?_
   refine rD 8 ?_
   refine AWP.cond rfl (fun hb => ?_) (fun hb => ?_)
   ·simp only[hb,cond_true]at hz1
    refine rS ?_
    refine AWP.ret ?_
    subst hz1
    dsimp only at hR
    subst hR
    exact es
   ·simp only[hb,cond_false]at hz1
    refine rS ?_
    exact⟨_,[],hlt1,wt,hz1,sm⟩
  ·obtain rfl:i1=a0.length:=ot
   rw[yi (Nat.le_refl _)]at hz1;subst hz1;dsimp only at hR
   refine AWP.exit ?_;refine yd ?_
   refine rS ?_
   refine AWP.ret ?_
   subst hR
   exact es
end N186
def D_zte : DF
 | [x0,x1]=>some (.bool (zte (rdL yn x0) (rdL yn x1)),false,[wL 3 eSector yn x0,wL 3 eSector yn x1])
 | _=>none
theorem ym1:OkD Tryz.prog 186 D_zte:=by unfold D_zte;exact dk N186.den
end Go.Ab

namespace Go.Ab
open Go Go.Proofs
def zfg (a0:Aid) (a1:Aid):Bool:=
 ((((((((a0.Number == a1.Number) && (a0.Name == a1.Name)) && (a0.At.X == a1.At.X && a0.At.Y == a1.At.Y)) && (a0.Height == a1.Height)) && (a0.Mark.Kind == a1.Mark.Kind && (a0.Mark.Colors == a1.Mark.Colors && (a0.Mark.Shape == a1.Mark.Shape && a0.Mark.Topmark == a1.Mark.Topmark)))) && (zke a0.Light a1.Light)) && (zte a0.Sectors a1.Sectors)) && (a0.Intensity == a1.Intensity))
namespace N143
theorem DD:DOk Tryz.prog (Go.Ab.DD [(185,dP D_zke),(186,dP D_zte)]):=ya ytr.e <| ya ym1.e <| ye _
theorem dn:type_of% (And.intro @D_zke.eq_1 <| @D_zte.eq_1):=by and_intros<;>intros<;>rfl
set_option maxHeartbeats 4000000 in
set_option maxRecDepth 20000 in
theorem den (a0:Aid) (a1:Aid)  : Den Tryz.prog 143 [.agg (eAid a0),.agg (eAid a1)] (.bool (zfg a0 a1)):=by
 generalize hR:zfg a0 a1=r
 unfold zfg at hR
 refine di Tryz.func143 Tryz.ntmps143 Tryz.results143 ?_
 intro c hL hc hk
 obtain⟨hL0,hL1,_⟩:=hL
 have hw0:bwAid a0:=yt a0 hL0
 have hw1:bwAid a1:=yt a1 hL1
 clear hL0 hL1
 simp only[pars,Nat.zero_add]
 iterate 2 refine rS ?_
 refine AWP.ret ?_
 subst hR
 exact es
end N143
def D_zfg : DF
 | [x0,x1]=>some (.bool (zfg (rdG dAid x0) (rdG dAid x1)),false,[wG eAid dAid x0,wG eAid dAid x1])
 | _=>none
theorem yjz:OkD Tryz.prog 143 D_zfg:=by unfold D_zfg;exact dk N143.den
end Go.Ab

namespace Go.Ab
open Go Go.Proofs
def zbe (a0:Notice) (a1:Notice):Bool:=
 (a0.Number == a1.Target)
namespace N178
theorem DD:DOk Tryz.prog (Go.Ab.DD []):=ye _
theorem den (a0:Notice) (a1:Notice)  : Den Tryz.prog 178 [.agg (eNotice a0),.ep (eNotice a1)] (.bool (zbe a0 a1)):=by
 generalize hR:zbe a0 a1=r
 unfold zbe at hR
 refine di Tryz.func178 Tryz.ntmps178 Tryz.results178 ?_
 intro c hL hc hk
 obtain⟨hL0,hL1,_⟩:=hL
 have hw0:bwNotice a0:=yg a0 hL0
 have hw1:bwNotice a1:=yg a1 hL1
 clear hL0 hL1
 simp only[pars,Nat.zero_add]
 iterate 2 refine rS ?_
 refine AWP.ret ?_
 subst hR
 exact es
end N178
def D_zbe : DF
 | [x0,x1]=>some (.bool (zbe (rdG yc x0) (rdP yc x1)),false,[wG eNotice yc x0,wP eNotice yc x1])
 | _=>none
theorem yk1:OkD Tryz.prog 178 D_zbe:=by unfold D_zbe;exact dk N178.den
end Go.Ab

namespace Go.Ab
open Go Go.Proofs
def y9o (a0:(List Notice)) (a1:Notice) (i1:Nat) (s1:Unit):Except (Int) (Unit):=
 (bif (zbe (a0.getD i1 default) a1)then .error (i1:Int)else .ok ())
def zcb (a0:(List Notice)) (a1:Notice):Int:=
 (match yh (y9o a0 a1) (a0.length-0) 0 ()with|.error e=>e|.ok s1=>(-1))
namespace N_zcb
theorem DD:DOk Tryz.prog (Go.Ab.DD [(178,dP D_zbe)]):=ya yk1.e <| ye _
theorem dn:type_of% (@D_zbe.eq_1):=by and_intros<;>intros<;>rfl
theorem den (a0:(List Notice)) (a1:Notice)  : Den Tryz.prog 177 [encL 20 eNotice a0,.fn 178 0 [.ep (eNotice a1)]] (.int .i64 (zcb a0 a1)):=by
 generalize hR:zcb a0 a1=r
 unfold zcb at hR
 refine di Tryz.func177 Tryz.ntmps177 Tryz.results177 ?_
 intro c hL hc hk
 obtain⟨hL0,hL1,_⟩:=hL
 have hw0:a0.length<9223372036854775808:=Nat.lt_succ_of_le (yb hL0).1
 have hw1:∀ v∈a0,bwNotice v:=fun v hv=>yg v ((yb hL0).2 v hv)
 have hw2:bwNotice a1:=yg a1 hL1.1
 clear hL0 hL1
 simp only[pars,Nat.zero_add]
 iterate 2 refine rS ?_
 refine AWP.block ?_
 generalize hz1:yh (y9o a0 a1) (a0.length-0) 0 ()=z1 at hR
 refine AWP.range (y9o a0 a1) (fun i1 s1=>⟨[(0,encL 20 eNotice a0),(1,.fn 178 0 [.ep (eNotice a1)]),(7,.int .i64 (a0.length:Int)),(8,.int .i64 (i1:Int))],[]⟩) (fun i1 s1=>True) (a0.length) 0 () [] hz1 ot wt sm ?_
 clear hz1
 intro i1 s1 hi1 hW1 hz1
 refine rS ?_
 refine AWP.seq ?_
 refine AWP.cond rfl (fun hb => ?_) (fun hb => ?_)
 ·have hlt1:i1<a0.length:=ot
  rw[yj hlt1]at hz1;simp only[y9o]at hz1
  iterate 2 refine rS ?_
  refine AWP.cond rfl (fun hb => ?_) (fun hb => ?_)
  ·simp only[hb,cond_true]at hz1
   refine rS ?_
   refine AWP.ret ?_
   subst hz1
   dsimp only at hR
   subst hR
   exact es
  ·simp only[hb,cond_false]at hz1
   refine rS ?_
   exact⟨_,[],hlt1,wt,hz1,sm⟩
 ·obtain rfl:i1=a0.length:=ot
  rw[yi (Nat.le_refl _)]at hz1;subst hz1;dsimp only at hR
  refine AWP.exit ?_;refine yd ?_
  refine rS ?_
  refine AWP.ret ?_
  subst hR
  exact es
end N_zcb
def D_zcb : DF
 | [x0,(.fn f178_2 kf178_2 [y1])]=>some (.int .i64 (zcb (rdL yc x0) (rdP yc y1)),false,[wL 20 eNotice yc x0,y1=.ep (eNotice (rdP yc y1)),f178_2=178,kf178_2=0])
 | _=>none
theorem y1x:OkD Tryz.prog 177 D_zcb:=by
 intro xs r z ob h ho
 unfold D_zcb at h
 split at h
 ·simp only[Option.some.injEq,Prod.mk.injEq]at h
  obtain⟨rfl,rfl,rfl⟩:=h
  obtain⟨h0,qy1,qf178_2,qkf178_2,_⟩:=ho
  exact Den.sim (N_zcb.den _ _ ) (yy (yie h0).1 <| yy (by subst qf178_2 qkf178_2;rw[← qy1];exact yqd _) <| trivial) (ykb (yie h0).2 <| ykb (by rw[qy1];rfl) <| rfl) rfl
 ·cases h
end Go.Ab

namespace Go.Ab
open Go Go.Proofs
theorem yno (a0:List Notice) (a1:Notice):(∃ j,j<a0.length∧(zbe (a0.getD j default) a1)=true∧(∀ q,q<j→(zbe (a0.getD q default) a1)=false)∧zcb a0 a1=(j:Int))∨((∀ q,q<a0.length→(zbe (a0.getD q default) a1)=false)∧zcb a0 a1 = -1):=by
 unfold zcb
 rcases y8b (b:=y9o a0 a1) (fun j=>zbe (a0.getD j default) a1) (fun j=>(j:Int)) (k:=a0.length-0) (i:=0) (s:=()) (fun j u _ _=>rfl)with⟨j,_,h2,h3,h4,h5⟩|⟨h1,h2⟩
 ·left
  rw[h5]
  exact⟨j,by omega,h3,fun q hq=>h4 q (Nat.zero_le _) hq,rfl⟩
 ·right
  rw[h2]
  exact⟨fun q hq=>h1 q (Nat.zero_le _) (by omega),rfl⟩
theorem y11 (a0:List Notice) (a1:Notice) : -1≤zcb a0 a1∧zcb a0 a1<a0.length:=by
 rcases yno a0 a1 with⟨j,h1,_,_,h2⟩|⟨_,h2⟩<;>omega
end Go.Ab

namespace Go.Ab
open Go Go.Proofs
def zvg (a0:Notice):Bool:=
 ((a0.Kind == 1) || (a0.Kind == 2))
namespace N176
theorem DD:DOk Tryz.prog (Go.Ab.DD []):=ye _
theorem den (a0:Notice)  : Den Tryz.prog 176 [.agg (eNotice a0)] (.bool (zvg a0)):=by
 generalize hR:zvg a0=r
 unfold zvg at hR
 refine di Tryz.func176 Tryz.ntmps176 Tryz.results176 ?_
 intro c hL hc hk
 obtain⟨hL0,_⟩:=hL
 have hw0:bwNotice a0:=yg a0 hL0
 clear hL0
 simp only[pars,Nat.zero_add]
 iterate 2 refine rS ?_
 refine AWP.ret ?_
 subst hR
 exact es
end N176
def D_zvg : DF
 | [x0]=>some (.bool (zvg (rdG yc x0)),false,[wG eNotice yc x0])
 | _=>none
theorem y4y:OkD Tryz.prog 176 D_zvg:=by unfold D_zvg;exact dk N176.den
end Go.Ab

namespace Go.Ab
open Go Go.Proofs
def zec (a0:Int):Bool:=
 (zb a0 0 99999)
namespace N73
theorem DD:DOk Tryz.prog (Go.Ab.DD [(139,dP D_zb)]):=ya ygd.e <| ye _
theorem dn:type_of% (@D_zb.eq_1):=by and_intros<;>intros<;>rfl
theorem ol:type_of% (@zb.eq_1):=@zb.eq_1
theorem den (a0:Int)  : Den Tryz.prog 73 [.int .i64 a0] (.bool (zec a0)):=by
 generalize hR:zec a0=r
 unfold zec at hR
 refine di Tryz.func73 Tryz.ntmps73 Tryz.results73 ?_
 intro c hL hc hk
 clear hL
 simp only[pars,Nat.zero_add]
 iterate 2 refine rS ?_
 refine AWP.ret ?_
 subst hR
 exact es
end N73
def D_zec : DF
 | [x0]=>some (.bool (zec (rdI x0)),false,[wI .i64 x0])
 | _=>none
theorem y5i:OkD Tryz.prog 73 D_zec:=by unfold D_zec;exact dk N73.den
end Go.Ab

namespace Go.Ab
open Go Go.Proofs
def zfh (a0:Notice) (a1:Notice):Bool:=
 ((a0.Kind == 4) && (a0.Target == a1.Target))
namespace N179
theorem DD:DOk Tryz.prog (Go.Ab.DD []):=ye _
theorem den (a0:Notice) (a1:Notice)  : Den Tryz.prog 179 [.agg (eNotice a0),.ep (eNotice a1)] (.bool (zfh a0 a1)):=by
 generalize hR:zfh a0 a1=r
 unfold zfh at hR
 refine di Tryz.func179 Tryz.ntmps179 Tryz.results179 ?_
 intro c hL hc hk
 obtain⟨hL0,hL1,_⟩:=hL
 have hw0:bwNotice a0:=yg a0 hL0
 have hw1:bwNotice a1:=yg a1 hL1
 clear hL0 hL1
 simp only[pars,Nat.zero_add]
 iterate 2 refine rS ?_
 refine AWP.ret ?_
 subst hR
 exact es
end N179
def D_zfh : DF
 | [x0,x1]=>some (.bool (zfh (rdG yc x0) (rdP yc x1)),false,[wG eNotice yc x0,wP eNotice yc x1])
 | _=>none
theorem yt0:OkD Tryz.prog 179 D_zfh:=by unfold D_zfh;exact dk N179.den
end Go.Ab

namespace Go.Ab
open Go Go.Proofs
def yvp (a0:(List Notice)) (a1:Notice) (i1:Nat) (s1:Unit):Except (Int) (Unit):=
 (bif (zfh (a0.getD i1 default) a1)then .error (i1:Int)else .ok ())
def zjd (a0:(List Notice)) (a1:Notice):Int:=
 (match yh (yvp a0 a1) (a0.length-0) 0 ()with|.error e=>e|.ok s1=>(-1))
namespace N_zjd
theorem DD:DOk Tryz.prog (Go.Ab.DD [(179,dP D_zfh)]):=ya yt0.e <| ye _
theorem dn:type_of% (@D_zfh.eq_1):=by and_intros<;>intros<;>rfl
theorem den (a0:(List Notice)) (a1:Notice)  : Den Tryz.prog 177 [encL 20 eNotice a0,.fn 179 0 [.ep (eNotice a1)]] (.int .i64 (zjd a0 a1)):=by
 generalize hR:zjd a0 a1=r
 unfold zjd at hR
 refine di Tryz.func177 Tryz.ntmps177 Tryz.results177 ?_
 intro c hL hc hk
 obtain⟨hL0,hL1,_⟩:=hL
 have hw0:a0.length<9223372036854775808:=Nat.lt_succ_of_le (yb hL0).1
 have hw1:∀ v∈a0,bwNotice v:=fun v hv=>yg v ((yb hL0).2 v hv)
 have hw2:bwNotice a1:=yg a1 hL1.1
 clear hL0 hL1
 simp only[pars,Nat.zero_add]
 iterate 2 refine rS ?_
 refine AWP.block ?_
 generalize hz1:yh (yvp a0 a1) (a0.length-0) 0 ()=z1 at hR
 refine AWP.range (yvp a0 a1) (fun i1 s1=>⟨[(0,encL 20 eNotice a0),(1,.fn 179 0 [.ep (eNotice a1)]),(7,.int .i64 (a0.length:Int)),(8,.int .i64 (i1:Int))],[]⟩) (fun i1 s1=>True) (a0.length) 0 () [] hz1 ot wt sm ?_
 clear hz1
 intro i1 s1 hi1 hW1 hz1
 refine rS ?_
 refine AWP.seq ?_
 refine AWP.cond rfl (fun hb => ?_) (fun hb => ?_)
 ·have hlt1:i1<a0.length:=ot
  rw[yj hlt1]at hz1;simp only[yvp]at hz1
  iterate 2 refine rS ?_
  refine AWP.cond rfl (fun hb => ?_) (fun hb => ?_)
  ·simp only[hb,cond_true]at hz1
   refine rS ?_
   refine AWP.ret ?_
   subst hz1
   dsimp only at hR
   subst hR
   exact es
  ·simp only[hb,cond_false]at hz1
   refine rS ?_
   exact⟨_,[],hlt1,wt,hz1,sm⟩
 ·obtain rfl:i1=a0.length:=ot
  rw[yi (Nat.le_refl _)]at hz1;subst hz1;dsimp only at hR
  refine AWP.exit ?_;refine yd ?_
  refine rS ?_
  refine AWP.ret ?_
  subst hR
  exact es
end N_zjd
def D_zjd : DF
 | [x0,(.fn f179_2 kf179_2 [y1])]=>some (.int .i64 (zjd (rdL yc x0) (rdP yc y1)),false,[wL 20 eNotice yc x0,y1=.ep (eNotice (rdP yc y1)),f179_2=179,kf179_2=0])
 | _=>none
theorem yz0:OkD Tryz.prog 177 D_zjd:=by
 intro xs r z ob h ho
 unfold D_zjd at h
 split at h
 ·simp only[Option.some.injEq,Prod.mk.injEq]at h
  obtain⟨rfl,rfl,rfl⟩:=h
  obtain⟨h0,qy1,qf179_2,qkf179_2,_⟩:=ho
  exact Den.sim (N_zjd.den _ _ ) (yy (yie h0).1 <| yy (by subst qf179_2 qkf179_2;rw[← qy1];exact yqd _) <| trivial) (ykb (yie h0).2 <| ykb (by rw[qy1];rfl) <| rfl) rfl
 ·cases h
end Go.Ab

namespace Go.Ab
open Go Go.Proofs
def zue (a0:(List Notice)) (a1:Notice):Bool:=
 decide (0≤(zjd a0 a1))
namespace N_zue
theorem DD:DOk Tryz.prog (Go.Ab.DD [(177,dP D_zjd)]):=ya yz0.e <| ye _
theorem dn:type_of% (@D_zjd.eq_1):=by and_intros<;>intros<;>rfl
theorem den (a0:(List Notice)) (a1:Notice)  : Den Tryz.prog 140 [encL 20 eNotice a0,.fn 179 0 [.ep (eNotice a1)]] (.bool (zue a0 a1)):=by
 generalize hR:zue a0 a1=r
 unfold zue at hR
 refine di Tryz.func140 Tryz.ntmps140 Tryz.results140 ?_
 intro c hL hc hk
 obtain⟨hL0,hL1,_⟩:=hL
 have hw0:a0.length<9223372036854775808:=Nat.lt_succ_of_le (yb hL0).1
 have hw1:∀ v∈a0,bwNotice v:=fun v hv=>yg v ((yb hL0).2 v hv)
 have hw2:bwNotice a1:=yg a1 hL1.1
 clear hL0 hL1
 simp only[pars,Nat.zero_add]
 iterate 2 refine rS ?_
 refine AWP.ret ?_
 subst hR
 exact es
end N_zue
def D_zue : DF
 | [x0,(.fn f179_2 kf179_2 [y1])]=>some (.bool (zue (rdL yc x0) (rdP yc y1)),false,[wL 20 eNotice yc x0,y1=.ep (eNotice (rdP yc y1)),f179_2=179,kf179_2=0])
 | _=>none
theorem ynx:OkD Tryz.prog 140 D_zue:=by
 intro xs r z ob h ho
 unfold D_zue at h
 split at h
 ·simp only[Option.some.injEq,Prod.mk.injEq]at h
  obtain⟨rfl,rfl,rfl⟩:=h
  obtain⟨h0,qy1,qf179_2,qkf179_2,_⟩:=ho
  exact Den.sim (N_zue.den _ _ ) (yy (yie h0).1 <| yy (by subst qf179_2 qkf179_2;rw[← qy1];exact yqd _) <| trivial) (ykb (yie h0).2 <| ykb (by rw[qy1];rfl) <| rfl) rfl
 ·cases h
end Go.Ab

namespace Go.Ab
open Go Go.Proofs
def zce (a0:Notice) (a1:(List Notice)):Bool:=
 (bif (decide ((zcb a1 a0)<0) || (((a1.getD (((zcb a1 a0)).toNat) default).Kind) == 4))then false else(!(zue a1 a0)))
namespace N125
theorem DD:DOk Tryz.prog (Go.Ab.DD [(140,dP D_zue),(177,dP D_zcb)]):=ya ynx.e <| ya y1x.e <| ye _
theorem dn:type_of% (And.intro @D_zue.eq_1 <| @D_zcb.eq_1):=by and_intros<;>intros<;>rfl
theorem gr {p:Prop} (h:p:=by(grind [y11]);first|done|fail):p:=h
theorem o0 {p:Prop} (h:p:=by(first|(intro h;simp at h;omega));first|done|fail):p:=h
theorem den (a0:Notice) (a1:(List Notice))  : Den Tryz.prog 125 [.agg (eNotice a0),encL 20 eNotice a1] (.bool (zce a0 a1)):=by
 generalize hR:zce a0 a1=r
 unfold zce at hR
 refine di Tryz.func125 Tryz.ntmps125 Tryz.results125 ?_
 intro c hL hc hk
 obtain⟨hL0,hL1,_⟩:=hL
 have hw0:bwNotice a0:=yg a0 hL0
 have hw1:a1.length<9223372036854775808:=Nat.lt_succ_of_le (yb hL1).1
 have hw2:∀ v∈a1,bwNotice v:=fun v hv=>yg v ((yb hL1).2 v hv)
 clear hL0 hL1
 simp only[pars,Nat.zero_add]
 have hix:=y11 a1 a0
 iterate 3 refine rS ?_
 refine AWP.cond rfl (fun hb => ?_) (fun hb => ?_)
 ·replace hR:=ct hR
  refine rS ?_
  refine AWP.ret ?_
  subst hR
  exact es
 ·replace hR:=cf hR
  refine rS ?_
  refine AWP.ret ?_
  subst hR
  exact es
end N125
def D_zce : DF
 | [x0,x1]=>some (.bool (zce (rdG yc x0) (rdL yc x1)),false,[wG eNotice yc x0,wL 20 eNotice yc x1])
 | _=>none
theorem y7r:OkD Tryz.prog 125 D_zce:=by unfold D_zce;exact dk N125.den
end Go.Ab

namespace Go.Ab
open Go Go.Proofs
def zgh (a0:Notice) (a1:Notice) (a2:Int):Bool:=
 (((a0.Kind == 4) && (a0.Target == a1.Number)) && decide (a0.Day≤a2))
namespace N141
theorem DD:DOk Tryz.prog (Go.Ab.DD []):=ye _
theorem den (a0:Notice) (a1:Notice) (a2:Int)  : Den Tryz.prog 141 [.agg (eNotice a0),.ep (eNotice a1),.ep (yp a2)] (.bool (zgh a0 a1 a2)):=by
 generalize hR:zgh a0 a1 a2=r
 unfold zgh at hR
 refine di Tryz.func141 Tryz.ntmps141 Tryz.results141 ?_
 intro c hL hc hk
 obtain⟨hL0,hL1,hL2,_⟩:=hL
 have hw0:bwNotice a0:=yg a0 hL0
 have hw1:bwNotice a1:=yg a1 hL1
 clear hL0 hL1 hL2
 simp only[pars,Nat.zero_add]
 iterate 2 refine rS ?_
 refine AWP.ret ?_
 subst hR
 exact es
end N141
def D_zgh : DF
 | [x0,x1,x2]=>some (.bool (zgh (rdG yc x0) (rdP yc x1) (rdP ylb x2)),false,[wG eNotice yc x0,wP eNotice yc x1,wP yp ylb x2])
 | _=>none
theorem yc0:OkD Tryz.prog 141 D_zgh:=by unfold D_zgh;exact dk N141.den
end Go.Ab

namespace Go.Ab
open Go Go.Proofs
def yfp (a0:(List Notice)) (a1:Notice) (a2:Int) (i1:Nat) (s1:Unit):Except (Int) (Unit):=
 (bif (zgh (a0.getD i1 default) a1 a2)then .error (i1:Int)else .ok ())
def zkd (a0:(List Notice)) (a1:Notice) (a2:Int):Int:=
 (match yh (yfp a0 a1 a2) (a0.length-0) 0 ()with|.error e=>e|.ok s1=>(-1))
namespace N_zkd
theorem DD:DOk Tryz.prog (Go.Ab.DD [(141,dP D_zgh)]):=ya yc0.e <| ye _
theorem dn:type_of% (@D_zgh.eq_1):=by and_intros<;>intros<;>rfl
theorem den (a0:(List Notice)) (a1:Notice) (a2:Int)  : Den Tryz.prog 177 [encL 20 eNotice a0,.fn 141 0 [.ep (eNotice a1),.ep (yp a2)]] (.int .i64 (zkd a0 a1 a2)):=by
 generalize hR:zkd a0 a1 a2=r
 unfold zkd at hR
 refine di Tryz.func177 Tryz.ntmps177 Tryz.results177 ?_
 intro c hL hc hk
 obtain⟨hL0,hL1,_⟩:=hL
 have hw0:a0.length<9223372036854775808:=Nat.lt_succ_of_le (yb hL0).1
 have hw1:∀ v∈a0,bwNotice v:=fun v hv=>yg v ((yb hL0).2 v hv)
 have hw2:bwNotice a1:=yg a1 hL1.1
 clear hL0 hL1
 simp only[pars,Nat.zero_add]
 iterate 2 refine rS ?_
 refine AWP.block ?_
 generalize hz1:yh (yfp a0 a1 a2) (a0.length-0) 0 ()=z1 at hR
 refine AWP.range (yfp a0 a1 a2) (fun i1 s1=>⟨[(0,encL 20 eNotice a0),(1,.fn 141 0 [.ep (eNotice a1),.ep (yp a2)]),(7,.int .i64 (a0.length:Int)),(8,.int .i64 (i1:Int))],[]⟩) (fun i1 s1=>True) (a0.length) 0 () [] hz1 ot wt sm ?_
 clear hz1
 intro i1 s1 hi1 hW1 hz1
 refine rS ?_
 refine AWP.seq ?_
 refine AWP.cond rfl (fun hb => ?_) (fun hb => ?_)
 ·have hlt1:i1<a0.length:=ot
  rw[yj hlt1]at hz1;simp only[yfp]at hz1
  iterate 2 refine rS ?_
  refine AWP.cond rfl (fun hb => ?_) (fun hb => ?_)
  ·simp only[hb,cond_true]at hz1
   refine rS ?_
   refine AWP.ret ?_
   subst hz1
   dsimp only at hR
   subst hR
   exact es
  ·simp only[hb,cond_false]at hz1
   refine rS ?_
   exact⟨_,[],hlt1,wt,hz1,sm⟩
 ·obtain rfl:i1=a0.length:=ot
  rw[yi (Nat.le_refl _)]at hz1;subst hz1;dsimp only at hR
  refine AWP.exit ?_;refine yd ?_
  refine rS ?_
  refine AWP.ret ?_
  subst hR
  exact es
end N_zkd
def D_zkd : DF
 | [x0,(.fn f141_3 kf141_3 [y1,y2])]=>some (.int .i64 (zkd (rdL yc x0) (rdP yc y1) (rdP ylb y2)),false,[wL 20 eNotice yc x0,y1=.ep (eNotice (rdP yc y1)),y2=.ep (yp (rdP ylb y2)),f141_3=141,kf141_3=0])
 | _=>none
theorem ypy:OkD Tryz.prog 177 D_zkd:=by
 intro xs r z ob h ho
 unfold D_zkd at h
 split at h
 ·simp only[Option.some.injEq,Prod.mk.injEq]at h
  obtain⟨rfl,rfl,rfl⟩:=h
  obtain⟨h0,qy1,qy2,qf141_3,qkf141_3,_⟩:=ho
  exact Den.sim (N_zkd.den _ _ _ ) (yy (yie h0).1 <| yy (by subst qf141_3 qkf141_3;rw[← qy1, ← qy2];exact yqd _) <| trivial) (ykb (yie h0).2 <| ykb (by rw[qy1,qy2];rfl) <| rfl) rfl
 ·cases h
end Go.Ab

namespace Go.Ab
open Go Go.Proofs
def zoe (a0:(List Notice)) (a1:Notice) (a2:Int):Bool:=
 decide (0≤(zkd a0 a1 a2))
namespace N_zoe
theorem DD:DOk Tryz.prog (Go.Ab.DD [(177,dP D_zkd)]):=ya ypy.e <| ye _
theorem dn:type_of% (@D_zkd.eq_1):=by and_intros<;>intros<;>rfl
theorem den (a0:(List Notice)) (a1:Notice) (a2:Int)  : Den Tryz.prog 140 [encL 20 eNotice a0,.fn 141 0 [.ep (eNotice a1),.ep (yp a2)]] (.bool (zoe a0 a1 a2)):=by
 generalize hR:zoe a0 a1 a2=r
 unfold zoe at hR
 refine di Tryz.func140 Tryz.ntmps140 Tryz.results140 ?_
 intro c hL hc hk
 obtain⟨hL0,hL1,_⟩:=hL
 have hw0:a0.length<9223372036854775808:=Nat.lt_succ_of_le (yb hL0).1
 have hw1:∀ v∈a0,bwNotice v:=fun v hv=>yg v ((yb hL0).2 v hv)
 have hw2:bwNotice a1:=yg a1 hL1.1
 clear hL0 hL1
 simp only[pars,Nat.zero_add]
 iterate 2 refine rS ?_
 refine AWP.ret ?_
 subst hR
 exact es
end N_zoe
def D_zoe : DF
 | [x0,(.fn f141_3 kf141_3 [y1,y2])]=>some (.bool (zoe (rdL yc x0) (rdP yc y1) (rdP ylb y2)),false,[wL 20 eNotice yc x0,y1=.ep (eNotice (rdP yc y1)),y2=.ep (yp (rdP ylb y2)),f141_3=141,kf141_3=0])
 | _=>none
theorem ys0:OkD Tryz.prog 140 D_zoe:=by
 intro xs r z ob h ho
 unfold D_zoe at h
 split at h
 ·simp only[Option.some.injEq,Prod.mk.injEq]at h
  obtain⟨rfl,rfl,rfl⟩:=h
  obtain⟨h0,qy1,qy2,qf141_3,qkf141_3,_⟩:=ho
  exact Den.sim (N_zoe.den _ _ _ ) (yy (yie h0).1 <| yy (by subst qf141_3 qkf141_3;rw[← qy1, ← qy2];exact yqd _) <| trivial) (ykb (yie h0).2 <| ykb (by rw[qy1,qy2];rfl) <| rfl) rfl
 ·cases h
end Go.Ab

namespace Go.Ab
open Go Go.Proofs
def yzp (a0:(List Notice)) (a1:Int) (i1:Nat) (s1:List Notice):Except ((List Notice)) (List Notice):=
 (bif (((((a0.getD i1 default).Kind) != 4) && decide (((a0.getD i1 default).Day)≤a1)) && (!(zoe a0 (a0.getD i1 default) a1)))then .ok (s1++[(a0.getD i1 default)])else .ok s1)
def zr (a0:(List Notice)) (a1:Int):(List Notice):=
 (match yh (yzp a0 a1) (a0.length-0) 0 ([]:List Notice)with|.error e=>e|.ok s1=>s1)
namespace N74
theorem DD:DOk Tryz.prog (Go.Ab.DD [(140,dP D_zoe)]):=ya ys0.e <| ye _
theorem dn:type_of% (@D_zoe.eq_1):=by and_intros<;>intros<;>rfl
theorem o2 {p:Prop} (h:p:=by(first|(and_intros<;>first|rfl|decide|(rw[IntKind.wrap_i64];omega)|(simp only[List.length_append,List.length_singleton];(first|done|fail))|(intro j hj;by_cases hji:j<s1.length;(focus(simp only[y03 hji,ye3 hji,cond_true];first|(first|done|fail)|rfl|(and_intros<;>rfl)));(simp only[yn4 hji hj,yr4 hji,cond_false];first|(first|done|fail)|rfl|(and_intros<;>rfl)))));first|done|fail):p:=h
set_option maxHeartbeats 2000000 in
set_option maxRecDepth 20000 in
theorem den (a0:(List Notice)) (a1:Int) (hb0:a0.length<1099511627776) (hb1:∀ v∈a0,bdNotice v) (hp0:a0.length≤1073741824):Den Tryz.prog 74 [encL 20 eNotice a0,.int .i64 a1] (ownL 90 20 eNotice (zr a0 a1)):=by
 generalize hR:zr a0 a1=r
 unfold zr at hR
 refine di Tryz.func74 Tryz.ntmps74 Tryz.results74 ?_
 intro c hL hc hk
 obtain⟨hL0,hL1,_⟩:=hL
 have hw0:a0.length<9223372036854775808:=Nat.lt_succ_of_le (yb hL0).1
 have hw1:∀ v∈a0,bwNotice v:=fun v hv=>yg v ((yb hL0).2 v hv)
 clear hL0 hL1
 simp only[pars,Nat.zero_add]
 iterate 3 refine rS ?_
 refine AWP.block ?_
 generalize hz1:yh (yzp a0 a1) (a0.length-0) 0 ([]:List Notice)=z1 at hR
 refine AWP.range (yzp a0 a1) (fun i1 s1=>⟨[(0,encL 20 eNotice a0),(3,.ptr 0 0),(5,.ref 1 20 0 s1.length),(10,encL 20 eNotice a0),(11,.int .i64 (a0.length:Int)),(12,.int .i64 (i1:Int))],[.box [.int .i64 a1],.arr 90 20 s1.length (fun j=>eNotice (s1.getD j default))]⟩) (fun i1 s1=>s1.length≤([]:List Notice).length+1 * i1) (a0.length) 0 ([]:List Notice) [0,1] hz1 ot wt sm ?_
 clear hz1
 intro i1 s1 hi1 hW1 hz1
 refine rS ?_
 refine AWP.seq ?_
 refine AWP.cond rfl (fun hb => ?_) (fun hb => ?_)
 ·have hlt1:i1<a0.length:=ot
  rw[yj hlt1]at hz1;simp only[yzp]at hz1
  iterate 3 refine rS ?_
  refine AWP.cond rfl (fun hb => ?_) (fun hb => ?_)
  ·simp only[hb,cond_true]at hz1
   iterate 2 refine rS ?_
   exact⟨_,[0,4],hlt1,wt,hz1,sm⟩
  ·simp only[hb,cond_false]at hz1
   refine rS ?_
   exact⟨_,[0,1],hlt1,wt,hz1,sm⟩
 ·obtain rfl:i1=a0.length:=ot
  rw[yi (Nat.le_refl _)]at hz1;subst hz1;dsimp only at hR
  refine AWP.exit ?_;refine yd ?_
  refine rS ?_
  refine AWP.ret ?_
  subst hR
  exact es
end N74
def D_zr : DF
 | [x0,x1]=>some (ownL 90 20 eNotice (zr (rdL yc x0) (rdI x1)),false,[wL 20 eNotice yc x0,wI .i64 x1,(rdL yc x0).length<1099511627776,∀ v∈(rdL yc x0),bdNotice v,(rdL yc x0).length≤1073741824])
 | _=>none
theorem y22:OkD Tryz.prog 74 D_zr:=by unfold D_zr;exact dk N74.den
end Go.Ab
