/- A part of a proof: walks of functions and lemmas of our own. No conditions. -/
import Derived.Test.YthadgghdkkapaaaGreatDoorPAl
import Derived.Test.YthadgghdkkapaaaGreatDoorPAn
import Derived.Test.YthadgghdkkapaaaGreatDoorPAk
import Derived.Test.YthadgghdkkapaaaGreatDoorPAi
set_option linter.unusedSectionVars false
set_option linter.unusedVariables false
set_option linter.unusedSimpArgs false
set_option maxHeartbeats 1000000
namespace Go.Ab
open Go Go.Proofs
def zgc (a0:Int):Int:=
 (IntKind.wrap .i64 ((a0.tmod 360)+360)).tmod 360
namespace N288
theorem DD:DOk Tryz.prog (Go.Ab.DD []):=yb _
theorem den (a0:Int)  : Den Tryz.prog 288 [.int .i64 a0] (.int .i64 (zgc a0)):=by
 generalize hR:zgc a0=r;unfold zgc at hR;refine di Tryz.func288 Tryz.ntmps288 Tryz.results288 ?_;intro c hL hc hk;clear hL;simp only[pars,Nat.zero_add];iterate 2 refine rS ?_
 refine AWP.ret ?_;subst hR;exact es
end N288
def D_zgc : DF
 | [x0]=>some (.int .i64 (zgc (rdI x0)),false,[wI .i64 x0])
 | _=>none
theorem y3p:OkD Tryz.prog 288 D_zgc:=by unfold D_zgc;exact dk N288.den
theorem y2l (a:Int):0<=zgc a/\zgc a<360:=by
 unfold zgc;have h1 : -360<a.tmod 360:=Int.lt_tmod_of_pos a (by decide);have h2:a.tmod 360<360:=Int.tmod_lt_of_pos a (by decide);rw[show IntKind.wrap .i64 (a.tmod 360+360)=a.tmod 360+360 by rw[IntKind.wrap_i64];omega];exact⟨Int.tmod_nonneg _ (by omega),Int.tmod_lt_of_pos _ (by decide)⟩
def zdb  : (List Int):=
 ([0,17452,34899,52336,69756,87156,104528,121869,139173,156434,173648,190809,207912,224951,241922,258819,275637,292372,309017,325568,342020,358368,374607,390731,406737,422618,438371,453990,469472,484810,500000,515038,529919,544639,559193,573576,587785,601815,615661,629320,642788,656059,669131,681998,694658,707107,719340,731354,743145,754710,766044,777146,788011,798636,809017,819152,829038,838671,848048,857167,866025,874620,882948,891007,898794,906308,913545,920505,927184,933580,939693,945519,951057,956305,961262,965926,970296,974370,978148,981627,984808,987688,990268,992546,994522,996195,997564,998630,999391,999848,1000000]:List Int)
namespace N267
theorem DD:DOk Tryz.prog (Go.Ab.DD []):=yb _
theorem o3 {p:Prop} (h:p:=by(first|(exact y8y zdb _ _ rfl rfl));first|done|fail):p:=h
theorem lx {p:Prop} (h:p:=by(exact lxx);first|done|fail):p:=h
set_option maxHeartbeats 1000000 in
set_option maxRecDepth 20000 in
theorem den   : Den Tryz.prog 267 [] (ownL 2 1 yq (zdb)):=by
 generalize hR:zdb=r;unfold zdb at hR;refine di Tryz.func267 Tryz.ntmps267 Tryz.results267 ?_;intro c hL hc hk;clear hL;simp only[pars,Nat.zero_add];iterate 2 refine rS ?_
 refine AWP.ret ?_;subst hR;exact es
end N267
def D_zdb : DF
 | []=>some (ownL 2 1 yq zdb,false,[])
 | _=>none
theorem ycp:OkD Tryz.prog 267 D_zdb:=by unfold D_zdb;exact dk N267.den
def zsc (a0:(List Int)) (a1:Int):Int:=
 (bif decide (180<=(zgc a1))then(bif decide (90<(IntKind.wrap .i64 ((zgc a1)-180)))then IntKind.wrap .i64 ((-1) * (a0.getD ((IntKind.wrap .i64 (180-(IntKind.wrap .i64 ((zgc a1)-180)))).toNat) default))else IntKind.wrap .i64 ((-1) * (a0.getD ((IntKind.wrap .i64 ((zgc a1)-180)).toNat) default)))else(bif decide (90<(zgc a1))then IntKind.wrap .i64 (1 * (a0.getD ((IntKind.wrap .i64 (180-(zgc a1))).toNat) default))else IntKind.wrap .i64 (1 * (a0.getD (((zgc a1)).toNat) default))))
namespace N268
theorem DD:DOk Tryz.prog (Go.Ab.DD [(288,dP D_zgc)]):=ya y3p.e <| yb _
theorem dn:type_of% (@D_zgc.eq_1):=by and_intros<;>intros<;>rfl
theorem den (a0:(List Int)) (a1:Int) (hp0:91<=a0.length):Den Tryz.prog 268 [encL 1 yq a0,.int .i64 a1] (.int .i64 (zsc a0 a1)):=by
 generalize hR:zsc a0 a1=r;unfold zsc at hR;refine di Tryz.func268 Tryz.ntmps268 Tryz.results268 ?_;intro c hL hc hk;obtain⟨hL0,hL1,_⟩:=hL;have hw0:a0.length<9223372036854775808:=Nat.lt_succ_of_le (yf hL0).1;clear hL0 hL1;simp only[pars,Nat.zero_add];have hA:=y2l a1;iterate 4 refine rS ?_
 refine AWP.cond rfl (fun hb => ?_) (fun hb => ?_)
 ·replace hR:=ct hR
  iterate 3 refine rS ?_
  refine AWP.cond rfl (fun hb => ?_) (fun hb => ?_)
  ·replace hR:=ct hR
   iterate 2 refine rS ?_
   refine AWP.ret ?_;subst hR;exact es
  ·replace hR:=cf hR
   refine rS ?_;refine AWP.ret ?_;subst hR;exact es
 ·replace hR:=cf hR
  refine rS ?_;refine AWP.cond rfl (fun hb => ?_) (fun hb => ?_)
  ·replace hR:=ct hR
   iterate 2 refine rS ?_
   refine AWP.ret ?_;subst hR;exact es
  ·replace hR:=cf hR
   refine rS ?_;refine AWP.ret ?_;subst hR;exact es
end N268
def D_zsc : DF
 | [x0,x1]=>some (.int .i64 (zsc (rdL ydb x0) (rdI x1)),false,[wL 1 yq ydb x0,wI .i64 x1,91<=(rdL ydb x0).length])
 | _=>none
theorem yuq:OkD Tryz.prog 268 D_zsc:=by unfold D_zsc;exact dk N268.den
def yof (a0:Point) (a1:Point) (i1:Nat) (s1:Int×Int):Except (Int) (Int×Int):=
 (bif (((i1:Int) == 0) || decide (s1.2<(IntKind.wrap .i64 ((IntKind.wrap .i64 ((IntKind.wrap .i64 (a1.X-a0.X)) * (zsc (zdb ) (i1:Int))))+(IntKind.wrap .i64 ((IntKind.wrap .i64 (a1.Y-a0.Y)) * (zsc (zdb ) (IntKind.wrap .i64 ((i1:Int)+90)))))))))then .ok ((i1:Int),IntKind.wrap .i64 ((IntKind.wrap .i64 ((IntKind.wrap .i64 (a1.X-a0.X)) * (zsc (zdb ) (i1:Int))))+(IntKind.wrap .i64 ((IntKind.wrap .i64 (a1.Y-a0.Y)) * (zsc (zdb ) (IntKind.wrap .i64 ((i1:Int)+90)))))))else .ok (s1.1,s1.2))
def zkc (a0:Point) (a1:Point):Int:=
 (match yh (yof a0 a1) (360-0) 0 (0,0)with|.error e=>e|.ok s1=>s1.1)
namespace N223
theorem DD:DOk Tryz.prog (Go.Ab.DD [(267,dP D_zdb),(268,dP D_zsc)]):=ya ycp.e <| ya yuq.e <| yb _
theorem dn:type_of% (And.intro @D_zdb.eq_1 <| @D_zsc.eq_1):=by and_intros<;>intros<;>rfl
set_option maxHeartbeats 1000000 in
set_option maxRecDepth 20000 in
theorem den (a0:Point) (a1:Point)  : Den Tryz.prog 223 [.agg (yx a0),.agg (yx a1)] (.int .i64 (zkc a0 a1)):=by
 generalize hR:zkc a0 a1=r;unfold zkc at hR;refine di Tryz.func223 Tryz.ntmps223 Tryz.results223 ?_;intro c hL hc hk;clear hL;simp only[pars,Nat.zero_add];iterate 5 refine rS ?_
 refine AWP.block ?_;generalize hz1:yh (yof a0 a1) (360-0) 0 (0,0)=z1 at hR;refine AWP.range (yof a0 a1) (fun i1 s1=>⟨[(2,.ptr 0 0),(3,.ptr 1 0),(5,.int .i64 s1.1),(6,.int .i64 s1.2),(7,.ref 2 1 0 ((zdb ).length)),(8,.int .i64 (i1:Int))],[.box [.int .i64 a0.X,.int .i64 a0.Y],.box [.int .i64 a1.X,.int .i64 a1.Y],.arr 2 1 (zdb ).length (fun j=>yq ((zdb ).getD j default))]⟩) (fun i1 s1=>True) (360) 0 (0,0) [0,1,2] hz1 ot wt sm ?_;clear hz1;intro i1 s1 hi1 hW1 hz1;refine rS ?_;refine AWP.cond rfl (fun hb => ?_) (fun hb => ?_)
 ·have hlt1:i1<360:=ot
  rw[yn hlt1]at hz1;simp only[yof]at hz1;refine rD 19 ?_;refine rS ?_;refine AWP.cond rfl (fun hb => ?_) (fun hb => ?_)
  ·simp only[hb,cond_true]at hz1
   iterate 3 refine rS ?_
   exact⟨_,[0,1,2],hlt1,wt,hz1,sm⟩
  ·simp only[hb,cond_false]at hz1
   refine rS ?_;exact⟨_,[0,1,2],hlt1,wt,hz1,sm⟩
 ·obtain rfl:i1=360:=ot
  rw[yp (Nat.le_refl _)]at hz1;subst hz1;dsimp only at hR;refine AWP.exit ?_;refine yc ?_;refine rS ?_;refine AWP.ret ?_;subst hR;exact es
end N223
def D_zkc : DF
 | [x0,x1]=>some (.int .i64 (zkc (rdG y7 x0) (rdG y7 x1)),false,[wG yx y7 x0,wG yx y7 x1])
 | _=>none
theorem yjx:OkD Tryz.prog 223 D_zkc:=by unfold D_zkc;exact dk N223.den
def yju (a0:Int) (s1:Int×Int):Except (Sum (Int) (Int×Int)) (Int×Int):=
 (bif decide (s1.1<s1.2)then(bif decide ((IntKind.wrap .i64 ((IntKind.wrap .i64 ((IntKind.wrap .i64 ((IntKind.wrap .i64 (s1.1+s1.2))+1)).tdiv 2)) * (IntKind.wrap .i64 ((IntKind.wrap .i64 ((IntKind.wrap .i64 (s1.1+s1.2))+1)).tdiv 2))))<=a0)then .ok (IntKind.wrap .i64 ((IntKind.wrap .i64 ((IntKind.wrap .i64 (s1.1+s1.2))+1)).tdiv 2),s1.2)else .ok (s1.1,IntKind.wrap .i64 ((IntKind.wrap .i64 ((IntKind.wrap .i64 ((IntKind.wrap .i64 (s1.1+s1.2))+1)).tdiv 2))-1)))else .error (.inr (s1.1,s1.2)))
def zsd (a0:Int):Int:=
 (match ymb (yju a0) ((((3037000499:Int)-(0:Int)).toNat)+1) (0,3037000499)with|.error (.inl e)=>e|.error (.inr s1)=>s1.1|.ok _=>default)
def zmf (a0:Int):Int:=
 (bif (decide (315<=a0) || decide (a0<45))then 3 else(bif decide (a0<135)then 4 else(bif decide (a0<225)then 5 else 6)))
namespace N266
theorem DD:DOk Tryz.prog (Go.Ab.DD []):=yb _
theorem den (a0:Int)  : Den Tryz.prog 266 [.int .i64 a0] (.int .i64 (zmf a0)):=by
 generalize hR:zmf a0=r;unfold zmf at hR;refine di Tryz.func266 Tryz.ntmps266 Tryz.results266 ?_;intro c hL hc hk;clear hL;simp only[pars,Nat.zero_add];iterate 2 refine rS ?_
 refine AWP.cond rfl (fun hb => ?_) (fun hb => ?_)
 ·replace hR:=ct hR
  refine rS ?_;refine AWP.ret ?_;subst hR;exact es
 ·replace hR:=cf hR
  refine rS ?_;refine AWP.cond rfl (fun hb => ?_) (fun hb => ?_)
  ·replace hR:=ct hR
   refine rS ?_;refine AWP.ret ?_;subst hR;exact es
  ·replace hR:=cf hR
   refine rS ?_;refine AWP.cond rfl (fun hb => ?_) (fun hb => ?_)
   ·replace hR:=ct hR
    refine rS ?_;refine AWP.ret ?_;subst hR;exact es
   ·replace hR:=cf hR
    refine rS ?_;refine AWP.ret ?_;subst hR;exact es
end N266
def D_zmf : DF
 | [x0]=>some (.int .i64 (zmf (rdI x0)),false,[wI .i64 x0])
 | _=>none
theorem ynx:OkD Tryz.prog 266 D_zmf:=by unfold D_zmf;exact dk N266.den
def zf (a0:Int) (a1:Int) (a2:Int):Bool:=
 (decide (a1<=a0) && decide (a0<=a2))
namespace N81
theorem DD:DOk Tryz.prog (Go.Ab.DD []):=yb _
theorem den (a0:Int) (a1:Int) (a2:Int)  : Den Tryz.prog 81 [.int .i64 a0,.int .i64 a1,.int .i64 a2] (.bool (zf a0 a1 a2)):=by
 generalize hR:zf a0 a1 a2=r;unfold zf at hR;refine di Tryz.func81 Tryz.ntmps81 Tryz.results81 ?_;intro c hL hc hk;clear hL;simp only[pars,Nat.zero_add];iterate 2 refine rS ?_
 refine AWP.ret ?_;subst hR;exact es
end N81
def D_zf : DF
 | [x0,x1,x2]=>some (.bool (zf (rdI x0) (rdI x1) (rdI x2)),false,[wI .i64 x0,wI .i64 x1,wI .i64 x2])
 | _=>none
theorem yed:OkD Tryz.prog 81 D_zf:=by unfold D_zf;exact dk N81.den
def zxe (a0:Int):(Int×Int):=
 (bif (!(zf a0 0 359))then(0,2)else((zmf a0),0))
namespace N222
theorem DD:DOk Tryz.prog (Go.Ab.DD [(266,dP D_zmf),(81,dP D_zf)]):=ya ynx.e <| ya yed.e <| yb _
theorem dn:type_of% (And.intro @D_zmf.eq_1 <| @D_zf.eq_1):=by and_intros<;>intros<;>rfl
theorem ol:type_of% (@zf.eq_1):=@zf.eq_1
theorem den (a0:Int)  : Den Tryz.prog 222 [.int .i64 a0] (.tup [.int .i64 ((zxe a0).1),.int .i64 ((zxe a0).2)]):=by
 generalize hR:zxe a0=r;unfold zxe at hR;refine di Tryz.func222 Tryz.ntmps222 Tryz.results222 ?_;intro c hL hc hk;clear hL;simp only[pars,Nat.zero_add];iterate 2 refine rS ?_
 refine AWP.cond rfl (fun hb => ?_) (fun hb => ?_)
 ·replace hR:=ct hR
  refine rS ?_;refine AWP.ret ?_;subst hR;exact es
 ·replace hR:=cf hR
  refine rS ?_;refine AWP.ret ?_;subst hR;exact es
end N222
def D_zxe : DF
 | [x0]=>some (.tup [.int .i64 ((zxe (rdI x0)).1),.int .i64 ((zxe (rdI x0)).2)],false,[wI .i64 x0])
 | _=>none
theorem yjw:OkD Tryz.prog 222 D_zxe:=by unfold D_zxe;exact dk N222.den
def zhe (a0:Danger) (a1:Point):Int:=
 (zxe (zkc a0.At a1)).1
namespace N164
theorem DD:DOk Tryz.prog (Go.Ab.DD [(222,dP D_zxe),(223,dP D_zkc)]):=ya yjw.e <| ya yjx.e <| yb _
theorem dn:type_of% (And.intro @D_zxe.eq_1 <| @D_zkc.eq_1):=by and_intros<;>intros<;>rfl
theorem den (a0:Danger) (a1:Point)  : Den Tryz.prog 164 [.ep (yr a0),.agg (yx a1)] (.int .i64 (zhe a0 a1)):=by
 generalize hR:zhe a0 a1=r;unfold zhe at hR;refine di Tryz.func164 Tryz.ntmps164 Tryz.results164 ?_;intro c hL hc hk;obtain⟨hL0,hL1,_⟩:=hL;have hw0:bwDanger a0:=y5 a0 hL0;clear hL0 hL1;simp only[pars,Nat.zero_add];refine rS ?_;refine AWP.seq ?_;refine AWP.regP mixed G_ok DD hc 11 [0,1,2,3,4,5,6,7,8,9] (.alt 10 [] [9] .leaf .stop) (by kernel_rfl) (by kernel_rfl) (by kernel_rfl) (fun K hK => ?_);simp only[y0f,runN,runP,yzb,nthO,ea,absV,absVL,cput,gv,sv,dn,reduceCtorEq,reduceIte,Nat.reduceBEq,Nat.reduceAdd,Nat.reduceEqDiff,Nat.reduceLT,Nat.reduceLeDiff,Nat.reduceMul,Nat.reduceSub,BEq.rfl,beq_self_eq_true,Int.reduceToNat];repeat' apply And.intro
 all_goals first|refine hK _ ?_|exact ot
 all_goals clear hK K
 refine rS ?_;refine AWP.ret ?_;subst hR;exact es
end N164
def D_zhe : DF
 | [x0,x1]=>some (.int .i64 (zhe (rdP yu x0) (rdG y7 x1)),false,[wP yr yu x0,wG yx y7 x1])
 | _=>none
theorem ymv:OkD Tryz.prog 164 D_zhe:=by unfold D_zhe;exact dk N164.den
def zzf (a0:Point) (a1:Point):Int:=
 IntKind.wrap .i64 ((IntKind.wrap .i64 ((IntKind.wrap .i64 (a0.X-a1.X)) * (IntKind.wrap .i64 (a0.X-a1.X))))+(IntKind.wrap .i64 ((IntKind.wrap .i64 (a0.Y-a1.Y)) * (IntKind.wrap .i64 (a0.Y-a1.Y)))))
def zag (a0:Point) (a1:Point):Int:=
 (zsd (zzf a0 a1))
def zxf (a0:Danger) (a1:Aid) (a2:Int):Bool:=
 (bif ((!(zf a1.Mark.Kind 3 6)) || (a1.At.X == a0.At.X && a1.At.Y == a0.At.Y))then false else((zf (zag a0.At a1.At) a0.Radius (IntKind.wrap .i64 (a0.Radius+a2))) && ((zhe a0 a1.At) == a1.Mark.Kind)))
def zeb (a0:Point):Bool:=
 ((zf a0.X 0 200000) && (zf a0.Y 0 200000))
namespace N117
theorem DD:DOk Tryz.prog (Go.Ab.DD [(81,dP D_zf)]):=ya yed.e <| yb _
theorem dn:type_of% (@D_zf.eq_1):=by and_intros<;>intros<;>rfl
theorem ol:type_of% (@zf.eq_1):=@zf.eq_1
theorem den (a0:Point)  : Den Tryz.prog 117 [.agg (yx a0)] (.bool (zeb a0)):=by
 generalize hR:zeb a0=r;unfold zeb at hR;refine di Tryz.func117 Tryz.ntmps117 Tryz.results117 ?_;intro c hL hc hk;clear hL;simp only[pars,Nat.zero_add];iterate 2 refine rS ?_
 refine AWP.ret ?_;subst hR;exact es
end N117
def D_zeb : DF
 | [x0]=>some (.bool (zeb (rdG y7 x0)),false,[wG yx y7 x0])
 | _=>none
theorem y1g:OkD Tryz.prog 117 D_zeb:=by unfold D_zeb;exact dk N117.den
def yo0 (a0:(List Int)) (a1:Int) (i1:Nat) (s1:Bool×List Int):Except ((List Int)) (Bool×List Int):=
 (bif ((!s1.1) && decide (a1<=(a0.getD i1 default)))then(bif decide (a1<(a0.getD i1 default))then .ok (true,(s1.2++([a1]:List Int))++([(a0.getD i1 default)]:List Int))else .ok (true,s1.2++([(a0.getD i1 default)]:List Int)))else .ok (s1.1,s1.2++([(a0.getD i1 default)]:List Int)))
def zcg (a0:(List Int)) (a1:Int):(List Int):=
 (match yh (yo0 a0 a1) (a0.length-0) 0 (false,([]:List Int))with|.error e=>e|.ok s1=>(bif (!s1.1)then s1.2++([a1]:List Int)else s1.2))
def zxd (a0:Int):Bool:=
 (decide (97<=a0) && decide (a0<=122))
namespace N166
theorem DD:DOk Tryz.prog (Go.Ab.DD []):=yb _
theorem den (a0:Int)  : Den Tryz.prog 166 [.int .u8 a0] (.bool (zxd a0)):=by
 generalize hR:zxd a0=r;unfold zxd at hR;refine di Tryz.func166 Tryz.ntmps166 Tryz.results166 ?_;intro c hL hc hk;clear hL;simp only[pars,Nat.zero_add];iterate 2 refine rS ?_
 refine AWP.ret ?_;subst hR;exact es
end N166
def D_zxd : DF
 | [x0]=>some (.bool (zxd (rdI x0)),false,[wI .u8 x0])
 | _=>none
theorem ysx:OkD Tryz.prog 166 D_zxd:=by unfold D_zxd;exact dk N166.den
def zef (a0:Int):Bool:=
 (decide (48<=a0) && decide (a0<=57))
namespace N167
theorem DD:DOk Tryz.prog (Go.Ab.DD []):=yb _
theorem den (a0:Int)  : Den Tryz.prog 167 [.int .u8 a0] (.bool (zef a0)):=by
 generalize hR:zef a0=r;unfold zef at hR;refine di Tryz.func167 Tryz.ntmps167 Tryz.results167 ?_;intro c hL hc hk;clear hL;simp only[pars,Nat.zero_add];iterate 2 refine rS ?_
 refine AWP.ret ?_;subst hR;exact es
end N167
def D_zef : DF
 | [x0]=>some (.bool (zef (rdI x0)),false,[wI .u8 x0])
 | _=>none
theorem y1x:OkD Tryz.prog 167 D_zef:=by unfold D_zef;exact dk N167.den
def yvq (a0:(List UInt8)) (i1:Nat) (s1:Unit):Except (Bool) (Unit):=
 (bif ((!(zxd ((a0.getD i1 0).toNat:Int))) && (!(zef ((a0.getD i1 0).toNat:Int))))then .error false else .ok ())
def zob (a0:(List UInt8)):Bool:=
 (bif (((a0 == []) || decide (10<(a0.length:Int))) || (!(zxd ((a0.getD 0 0).toNat:Int))))then false else(match yh (yvq a0) (a0.length-0) 0 ()with|.error e=>e|.ok s1=>true))
namespace N116
theorem DD:DOk Tryz.prog (Go.Ab.DD [(166,dP D_zxd),(167,dP D_zef)]):=ya ysx.e <| ya y1x.e <| yb _
theorem dn:type_of% (And.intro @D_zxd.eq_1 <| @D_zef.eq_1):=by and_intros<;>intros<;>rfl
theorem den (a0:(List UInt8))  : Den Tryz.prog 116 [.str a0] (.bool (zob a0)):=by
 generalize hR:zob a0=r;unfold zob at hR;refine di Tryz.func116 Tryz.ntmps116 Tryz.results116 ?_;intro c hL hc hk;obtain⟨hL0,_⟩:=hL;have hw0:a0.length<9223372036854775808:=Nat.lt_succ_of_le hL0;clear hL0;simp only[pars,Nat.zero_add];iterate 2 refine rS ?_
 refine AWP.cond rfl (fun hb => ?_) (fun hb => ?_)
 ·replace hR:=ct hR
  refine rS ?_;refine AWP.ret ?_;subst hR;exact es
 ·replace hR:=cf hR
  refine rS ?_;refine AWP.block ?_;generalize hz1:yh (yvq a0) (a0.length-0) 0 ()=z1 at hR;refine AWP.range (yvq a0) (fun i1 s1=>⟨[(0,.str a0),(3,.int .i64 (i1:Int))],[]⟩) (fun i1 s1=>True) (a0.length) 0 () [] hz1 ot wt sm ?_;clear hz1;intro i1 s1 hi1 hW1 hz1;refine rS ?_;refine AWP.cond rfl (fun hb => ?_) (fun hb => ?_)
  ·have hlt1:i1<a0.length:=ot
   rw[yn hlt1]at hz1;simp only[yvq]at hz1;refine rS ?_;refine AWP.cond rfl (fun hb => ?_) (fun hb => ?_)
   ·simp only[hb,cond_true]at hz1
    refine rS ?_;refine AWP.ret ?_;subst hz1;dsimp only at hR;subst hR;exact es
   ·simp only[hb,cond_false]at hz1
    refine rS ?_;exact⟨_,[],hlt1,wt,hz1,sm⟩
  ·obtain rfl:i1=a0.length:=ot
   rw[yp (Nat.le_refl _)]at hz1;subst hz1;dsimp only at hR;refine AWP.exit ?_;refine yc ?_;refine rS ?_;refine AWP.ret ?_;subst hR;exact es
end N116
def D_zob : DF
 | [x0]=>some (.bool (zob (rdS x0)),false,[wS x0])
 | _=>none
theorem y2o:OkD Tryz.prog 116 D_zob:=by unfold D_zob;exact dk N116.den
def yym (a0:(List Int)) (i1:Nat) (s1:Int):Except (Int) (Int):=
 .ok (IntKind.wrap .i64 (s1+(a0.getD i1 default)))
def ztd (a0:(List Int)):Int:=
 (bif ((a0.length:Int) == 0)then 1 else(match yh (yym a0) (a0.length-0) 0 0 with|.error e=>e|.ok s1=>s1))
namespace N270
theorem DD:DOk Tryz.prog (Go.Ab.DD []):=yb _
theorem den (a0:(List Int))  : Den Tryz.prog 270 [encL 1 yq a0] (.int .i64 (ztd a0)):=by
 generalize hR:ztd a0=r;unfold ztd at hR;refine di Tryz.func270 Tryz.ntmps270 Tryz.results270 ?_;intro c hL hc hk;obtain⟨hL0,_⟩:=hL;have hw0:a0.length<9223372036854775808:=Nat.lt_succ_of_le (yf hL0).1;clear hL0;simp only[pars,Nat.zero_add];iterate 2 refine rS ?_
 refine AWP.cond rfl (fun hb => ?_) (fun hb => ?_)
 ·replace hR:=ct hR
  refine rS ?_;refine AWP.ret ?_;subst hR;exact es
 ·replace hR:=cf hR
  iterate 2 refine rS ?_
  refine AWP.block ?_;generalize hz1:yh (yym a0) (a0.length-0) 0 0=z1 at hR;refine AWP.range (yym a0) (fun i1 s1=>⟨[(0,encL 1 yq a0),(3,.int .i64 s1),(4,.int .i64 (i1:Int))],[]⟩) (fun i1 s1=>True) (a0.length) 0 0 [] hz1 ot wt sm ?_;clear hz1;intro i1 s1 hi1 hW1 hz1;refine rS ?_;refine AWP.cond rfl (fun hb => ?_) (fun hb => ?_)
  ·have hlt1:i1<a0.length:=ot
   rw[yn hlt1]at hz1;simp only[yym]at hz1;iterate 2 refine rS ?_
   exact⟨_,[],hlt1,wt,hz1,sm⟩
  ·obtain rfl:i1=a0.length:=ot
   rw[yp (Nat.le_refl _)]at hz1;subst hz1;dsimp only at hR;refine AWP.exit ?_;refine yc ?_;refine rS ?_;refine AWP.ret ?_;subst hR;exact es
end N270
def D_ztd : DF
 | [x0]=>some (.int .i64 (ztd (rdL ydb x0)),false,[wL 1 yq ydb x0])
 | _=>none
theorem yjv:OkD Tryz.prog 270 D_ztd:=by unfold D_ztd;exact dk N270.den
def yan (a0:(List Int)) (i1:Nat) (s1:Unit):Except (Bool) (Unit):=
 (bif (!(zf (a0.getD i1 default) 1 9))then .error false else .ok ())
def zlb (a0:(List Int)):Bool:=
 (match yh (yan a0) (a0.length-0) 0 ()with|.error e=>e|.ok s1=>((decide ((a0.length:Int)<=4) && (!(((a0.length:Int) == 1) && ((a0.getD 0 default) == 1)))) && decide ((ztd a0)<=12)))
namespace N226
theorem DD:DOk Tryz.prog (Go.Ab.DD [(270,dP D_ztd),(81,dP D_zf)]):=ya yjv.e <| ya yed.e <| yb _
theorem dn:type_of% (And.intro @D_ztd.eq_1 <| @D_zf.eq_1):=by and_intros<;>intros<;>rfl
theorem ol:type_of% (@zf.eq_1):=@zf.eq_1
theorem den (a0:(List Int))  : Den Tryz.prog 226 [encL 1 yq a0] (.bool (zlb a0)):=by
 generalize hR:zlb a0=r;unfold zlb at hR;refine di Tryz.func226 Tryz.ntmps226 Tryz.results226 ?_;intro c hL hc hk;obtain⟨hL0,_⟩:=hL;have hw0:a0.length<9223372036854775808:=Nat.lt_succ_of_le (yf hL0).1;clear hL0;simp only[pars,Nat.zero_add];iterate 2 refine rS ?_
 refine AWP.block ?_;generalize hz1:yh (yan a0) (a0.length-0) 0 ()=z1 at hR;refine AWP.range (yan a0) (fun i1 s1=>⟨[(0,encL 1 yq a0),(3,.int .i64 (i1:Int))],[]⟩) (fun i1 s1=>True) (a0.length) 0 () [] hz1 ot wt sm ?_;clear hz1;intro i1 s1 hi1 hW1 hz1;refine rS ?_;refine AWP.cond rfl (fun hb => ?_) (fun hb => ?_)
 ·have hlt1:i1<a0.length:=ot
  rw[yn hlt1]at hz1;simp only[yan]at hz1;refine rS ?_;refine AWP.cond rfl (fun hb => ?_) (fun hb => ?_)
  ·simp only[hb,cond_true]at hz1
   refine rS ?_;refine AWP.ret ?_;subst hz1;dsimp only at hR;subst hR;exact es
  ·simp only[hb,cond_false]at hz1
   refine rS ?_;exact⟨_,[],hlt1,wt,hz1,sm⟩
 ·obtain rfl:i1=a0.length:=ot
  rw[yp (Nat.le_refl _)]at hz1;subst hz1;dsimp only at hR;refine AWP.exit ?_;refine yc ?_;refine rS ?_;refine AWP.ret ?_;subst hR;exact es
end N226
def D_zlb : DF
 | [x0]=>some (.bool (zlb (rdL ydb x0)),false,[wL 1 yq ydb x0])
 | _=>none
theorem ydq:OkD Tryz.prog 226 D_zlb:=by unfold D_zlb;exact dk N226.den
def zie (a0:Int):Int:=
 (bif (a0 == 87)then 1 else(bif (a0 == 82)then 2 else(bif (a0 == 71)then 3 else(bif (a0 == 89)then 4 else 0))))
namespace N269
theorem DD:DOk Tryz.prog (Go.Ab.DD []):=yb _
theorem den (a0:Int)  : Den Tryz.prog 269 [.int .u8 a0] (.int .i64 (zie a0)):=by
 generalize hR:zie a0=r;unfold zie at hR;refine di Tryz.func269 Tryz.ntmps269 Tryz.results269 ?_;intro c hL hc hk;clear hL;simp only[pars,Nat.zero_add];iterate 3 refine rS ?_
 refine AWP.cond rfl (fun hb => ?_) (fun hb => ?_)
 ·replace hR:=ct hR
  refine rS ?_;refine AWP.ret ?_;subst hR;exact es
 ·replace hR:=cf hR
  refine rS ?_;refine AWP.cond rfl (fun hb => ?_) (fun hb => ?_)
  ·replace hR:=ct hR
   refine rS ?_;refine AWP.ret ?_;subst hR;exact es
  ·replace hR:=cf hR
   refine rS ?_;refine AWP.cond rfl (fun hb => ?_) (fun hb => ?_)
   ·replace hR:=ct hR
    refine rS ?_;refine AWP.ret ?_;subst hR;exact es
   ·replace hR:=cf hR
    refine rS ?_;refine AWP.cond rfl (fun hb => ?_) (fun hb => ?_)
    ·replace hR:=ct hR
     refine rS ?_;refine AWP.ret ?_;subst hR;exact es
    ·replace hR:=cf hR
     refine rS ?_;refine AWP.ret ?_;subst hR;exact es
end N269
def D_zie : DF
 | [x0]=>some (.int .i64 (zie (rdI x0)),false,[wI .u8 x0])
 | _=>none
theorem ygw:OkD Tryz.prog 269 D_zie:=by unfold D_zie;exact dk N269.den
def yuj (a0:(List UInt8)) (i1:Nat) (s1:Unit):Except (Bool) (Unit):=
 (bif (((zie ((a0.getD i1 0).toNat:Int)) == 0) || (decide (0<(i1:Int)) && decide ((zie ((a0.getD i1 0).toNat:Int))<=(zie ((a0.getD ((IntKind.wrap .i64 ((i1:Int)-1)).toNat) 0).toNat:Int)))))then .error false else .ok ())
def zpb (a0:(List UInt8)):Bool:=
 (match yh (yuj a0) (a0.length-0) 0 ()with|.error e=>e|.ok s1=>(decide (1<=(a0.length:Int)) && decide ((a0.length:Int)<=3)))
namespace N225
theorem DD:DOk Tryz.prog (Go.Ab.DD [(269,dP D_zie)]):=ya ygw.e <| yb _
theorem dn:type_of% (@D_zie.eq_1):=by and_intros<;>intros<;>rfl
theorem den (a0:(List UInt8))  : Den Tryz.prog 225 [.str a0] (.bool (zpb a0)):=by
 generalize hR:zpb a0=r;unfold zpb at hR;refine di Tryz.func225 Tryz.ntmps225 Tryz.results225 ?_;intro c hL hc hk;obtain⟨hL0,_⟩:=hL;have hw0:a0.length<9223372036854775808:=Nat.lt_succ_of_le hL0;clear hL0;simp only[pars,Nat.zero_add];iterate 2 refine rS ?_
 refine AWP.block ?_;generalize hz1:yh (yuj a0) (a0.length-0) 0 ()=z1 at hR;refine AWP.range (yuj a0) (fun i1 s1=>⟨[(0,.str a0),(3,.int .i64 (i1:Int))],[]⟩) (fun i1 s1=>True) (a0.length) 0 () [] hz1 ot wt sm ?_;clear hz1;intro i1 s1 hi1 hW1 hz1;refine rS ?_;refine AWP.cond rfl (fun hb => ?_) (fun hb => ?_)
 ·have hlt1:i1<a0.length:=ot
  rw[yn hlt1]at hz1;simp only[yuj]at hz1;refine rD 21 ?_;refine AWP.cond rfl (fun hb => ?_) (fun hb => ?_)
  ·simp only[hb,cond_true]at hz1
   refine rS ?_;refine AWP.ret ?_;subst hz1;dsimp only at hR;subst hR;exact es
  ·simp only[hb,cond_false]at hz1
   refine rS ?_;exact⟨_,[],hlt1,wt,hz1,sm⟩
 ·obtain rfl:i1=a0.length:=ot
  rw[yp (Nat.le_refl _)]at hz1;subst hz1;dsimp only at hR;refine AWP.exit ?_;refine yc ?_;refine rS ?_;refine AWP.ret ?_;subst hR;exact es
end N225
def D_zpb : DF
 | [x0]=>some (.bool (zpb (rdS x0)),false,[wS x0])
 | _=>none
theorem ybv:OkD Tryz.prog 225 D_zpb:=by unfold D_zpb;exact dk N225.den
def zff (a0:Int):Bool:=
 (zf a0 1 8)
namespace N224
theorem DD:DOk Tryz.prog (Go.Ab.DD [(81,dP D_zf)]):=ya yed.e <| yb _
theorem dn:type_of% (@D_zf.eq_1):=by and_intros<;>intros<;>rfl
theorem ol:type_of% (@zf.eq_1):=@zf.eq_1
theorem den (a0:Int)  : Den Tryz.prog 224 [.int .i64 a0] (.bool (zff a0)):=by
 generalize hR:zff a0=r;unfold zff at hR;refine di Tryz.func224 Tryz.ntmps224 Tryz.results224 ?_;intro c hL hc hk;clear hL;simp only[pars,Nat.zero_add];iterate 2 refine rS ?_
 refine AWP.ret ?_;subst hR;exact es
end N224
def D_zff : DF
 | [x0]=>some (.bool (zff (rdI x0)),false,[wI .i64 x0])
 | _=>none
theorem y4w:OkD Tryz.prog 224 D_zff:=by unfold D_zff;exact dk N224.den
def zyc (a0:Character):Bool:=
 (bif ((!(zff a0.Kind)) || (!(zpb a0.Colors)))then false else(bif (a0.Kind == 1)then(((a0.Group.length:Int) == 0) && (a0.Letter == []))else(bif (a0.Kind == 3)then(((a0.Group.length:Int) == 0) && (a0.Letter == []))else(bif (a0.Kind == 6)then(bif (a0.Letter == [76])then(((a0.Group.length:Int) == 1) && ((a0.Group.getD 0 default) == 6))else(((a0.Letter == []) && decide ((a0.Group.length:Int)<=1)) && (zlb a0.Group)))else(bif (a0.Kind == 7)then(bif (a0.Letter == [76])then(((a0.Group.length:Int) == 1) && ((a0.Group.getD 0 default) == 6))else(((a0.Letter == []) && decide ((a0.Group.length:Int)<=1)) && (zlb a0.Group)))else(bif (a0.Kind == 8)then(((((a0.Group.length:Int) == 0) && ((a0.Letter.length:Int) == 1)) && decide (65<=((a0.Letter.getD 0 0).toNat:Int))) && decide (((a0.Letter.getD 0 0).toNat:Int)<=90))else((a0.Letter == []) && (zlb a0.Group))))))))
namespace N169
theorem DD:DOk Tryz.prog (Go.Ab.DD [(224,dP D_zff),(225,dP D_zpb),(226,dP D_zlb)]):=ya y4w.e <| ya ybv.e <| ya ydq.e <| yb _
theorem dn:type_of% (And.intro @D_zff.eq_1 <| And.intro @D_zpb.eq_1 <| @D_zlb.eq_1):=by and_intros<;>intros<;>rfl
theorem den (a0:Character)  : Den Tryz.prog 169 [.ep (ym a0)] (.bool (zyc a0)):=by
 generalize hR:zyc a0=r;unfold zyc at hR;refine di Tryz.func169 Tryz.ntmps169 Tryz.results169 ?_;intro c hL hc hk;obtain⟨hL0,_⟩:=hL;have hw0:bwCharacter a0:=yv a0 hL0;clear hL0;simp only[pars,Nat.zero_add];iterate 2 refine rS ?_
 refine AWP.cond rfl (fun hb => ?_) (fun hb => ?_)
 ·replace hR:=ct hR
  refine rS ?_;refine AWP.ret ?_;subst hR;exact es
 ·replace hR:=cf hR
  iterate 2 refine rS ?_
  refine AWP.cond rfl (fun hb => ?_) (fun hb => ?_)
  ·replace hR:=ct hR
   refine AWP.skip ?_;refine AWP.cond rfl (fun hb => ?_) (fun hb => ?_)
   ·refine rS ?_
    refine AWP.ret ?_;subst hR;exact es
   ·exfalso;simp_all
  ·replace hR:=cf hR
   refine rS ?_;refine AWP.cond rfl (fun hb => ?_) (fun hb => ?_)
   ·replace hR:=ct hR
    refine rS ?_;refine AWP.ret ?_;subst hR;exact es
   ·replace hR:=cf hR
    refine rS ?_;refine AWP.cond rfl (fun hb => ?_) (fun hb => ?_)
    ·replace hR:=ct hR
     refine AWP.skip ?_;refine AWP.cond rfl (fun hb => ?_) (fun hb => ?_)
     ·refine rS ?_
      refine AWP.cond rfl (fun hb => ?_) (fun hb => ?_)
      ·replace hR:=ct hR
       refine rS ?_;refine AWP.ret ?_;subst hR;exact es
      ·replace hR:=cf hR
       refine rS ?_;refine AWP.ret ?_;subst hR;exact es
     ·exfalso;simp_all
    ·replace hR:=cf hR
     refine rS ?_;refine AWP.cond rfl (fun hb => ?_) (fun hb => ?_)
     ·replace hR:=ct hR
      refine rS ?_;refine AWP.cond rfl (fun hb => ?_) (fun hb => ?_)
      ·replace hR:=ct hR
       refine rS ?_;refine AWP.ret ?_;subst hR;exact es
      ·replace hR:=cf hR
       refine rS ?_;refine AWP.ret ?_;subst hR;exact es
     ·replace hR:=cf hR
      refine rS ?_;refine AWP.cond rfl (fun hb => ?_) (fun hb => ?_)
      ·replace hR:=ct hR
       refine rS ?_;refine AWP.ret ?_;subst hR;exact es
      ·replace hR:=cf hR
       refine rS ?_;refine AWP.ret ?_;subst hR;exact es
end N169
def D_zyc : DF
 | [x0]=>some (.bool (zyc (rdP ye x0)),false,[wP ym ye x0])
 | _=>none
theorem yyx:OkD Tryz.prog 169 D_zyc:=by unfold D_zyc;exact dk N169.den
def y7j (a0:Int) (i1:Nat) (s1:List Int):Except ((List Int)) (List Int):=
 (bif ((((([[46,45],[45,46,46,46],[45,46,45,46],[45,46,46],[46],[46,46,45,46],[45,45,46],[46,46,46,46],[46,46],[46,45,45,45],[45,46,45],[46,45,46,46],[45,45],[45,46],[45,45,45],[46,45,45,46],[45,45,46,45],[46,45,46],[46,46,46],[45],[46,46,45],[46,46,46,45],[46,45,45],[45,46,46,45],[45,46,45,45],[45,45,46,46]]:List (List UInt8)).getD ((IntKind.wrap .u8 (a0-65)).toNat) default).getD i1 0).toNat:Int) == 46)then .ok (s1++([5]:List Int))else .ok (s1++([15]:List Int)))
def zsb (a0:Int):(List Int):=
 (match yh (y7j a0) (((([[46,45],[45,46,46,46],[45,46,45,46],[45,46,46],[46],[46,46,45,46],[45,45,46],[46,46,46,46],[46,46],[46,45,45,45],[45,46,45],[46,45,46,46],[45,45],[45,46],[45,45,45],[46,45,45,46],[45,45,46,45],[46,45,46],[46,46,46],[45],[46,46,45],[46,46,46,45],[46,45,45],[45,46,46,45],[45,46,45,45],[45,45,46,46]]:List (List UInt8)).getD ((IntKind.wrap .u8 (a0-65)).toNat) default).length)-0) 0 ([]:List Int)with|.error e=>e|.ok s1=>s1)
namespace N271
theorem DD:DOk Tryz.prog (Go.Ab.DD []):=yb _
theorem lx {p:Prop} (h:p:=by(exact lxx);first|done|fail):p:=h
theorem den (a0:Int) (hp0:65<=a0) (hp1:a0<=90):Den Tryz.prog 271 [.int .u8 a0] (ownL 2 1 yq (zsb a0)):=by
 generalize hR:zsb a0=r;unfold zsb at hR;refine di Tryz.func271 Tryz.ntmps271 Tryz.results271 ?_;intro c hL hc hk;clear hL;simp only[pars,Nat.zero_add];have hs9:=yiv (IntKind.wrap .u8 (a0-65)).toNat;have hw9:IntKind.wrap .u8 (a0-65)=a0-65:=yuh _ (by omega) (by omega);iterate 5 refine rS ?_
 refine AWP.block ?_;generalize hz1:yh (y7j a0) (((([[46,45],[45,46,46,46],[45,46,45,46],[45,46,46],[46],[46,46,45,46],[45,45,46],[46,46,46,46],[46,46],[46,45,45,45],[45,46,45],[46,45,46,46],[45,45],[45,46],[45,45,45],[46,45,45,46],[45,45,46,45],[46,45,46],[46,46,46],[45],[46,46,45],[46,46,46,45],[46,45,45],[45,46,46,45],[45,46,45,45],[45,45,46,46]]:List (List UInt8)).getD ((IntKind.wrap .u8 (a0-65)).toNat) default).length)-0) 0 ([]:List Int)=z1 at hR;refine AWP.range (y7j a0) (fun i1 s1=>⟨[(4,.str (([[46,45],[45,46,46,46],[45,46,45,46],[45,46,46],[46],[46,46,45,46],[45,45,46],[46,46,46,46],[46,46],[46,45,45,45],[45,46,45],[46,45,46,46],[45,45],[45,46],[45,45,45],[46,45,45,46],[45,45,46,45],[46,45,46],[46,46,46],[45],[46,46,45],[46,46,46,45],[46,45,45],[45,46,46,45],[45,46,45,45],[45,45,46,46]]:List (List UInt8)).getD ((IntKind.wrap .u8 (a0-65)).toNat) default)),(5,.ref 0 1 0 s1.length),(6,.int .i64 (i1:Int))],[.arr 2 1 s1.length (fun j=>yq (s1.getD j default))]⟩) (fun i1 s1=>s1.length<=([]:List Int).length+1 * i1/\s1.length<=i1) (((([[46,45],[45,46,46,46],[45,46,45,46],[45,46,46],[46],[46,46,45,46],[45,45,46],[46,46,46,46],[46,46],[46,45,45,45],[45,46,45],[46,45,46,46],[45,45],[45,46],[45,45,45],[46,45,45,46],[45,45,46,45],[46,45,46],[46,46,46],[45],[46,46,45],[46,46,46,45],[46,45,45],[45,46,46,45],[45,46,45,45],[45,45,46,46]]:List (List UInt8)).getD ((IntKind.wrap .u8 (a0-65)).toNat) default).length)) 0 ([]:List Int) [1] hz1 ot wt sm ?_;clear hz1;intro i1 s1 hi1 hW1 hz1;refine rS ?_;refine AWP.cond rfl (fun hb => ?_) (fun hb => ?_)
 ·have hlt1:i1<((([[46,45],[45,46,46,46],[45,46,45,46],[45,46,46],[46],[46,46,45,46],[45,45,46],[46,46,46,46],[46,46],[46,45,45,45],[45,46,45],[46,45,46,46],[45,45],[45,46],[45,45,45],[46,45,45,46],[45,45,46,45],[46,45,46],[46,46,46],[45],[46,46,45],[46,46,46,45],[46,45,45],[45,46,46,45],[45,46,45,45],[45,45,46,46]]:List (List UInt8)).getD ((IntKind.wrap .u8 (a0-65)).toNat) default).length):=ot
  rw[yn hlt1]at hz1;simp only[y7j]at hz1;refine rS ?_;refine AWP.cond rfl (fun hb => ?_) (fun hb => ?_)
  ·simp only[hb,cond_true]at hz1
   iterate 2 refine rS ?_
   exact⟨_,[2],hlt1,wt,hz1,sm⟩
  ·simp only[hb,cond_false]at hz1
   iterate 2 refine rS ?_
   exact⟨_,[2],hlt1,wt,hz1,sm⟩
 ·obtain rfl:i1=((([[46,45],[45,46,46,46],[45,46,45,46],[45,46,46],[46],[46,46,45,46],[45,45,46],[46,46,46,46],[46,46],[46,45,45,45],[45,46,45],[46,45,46,46],[45,45],[45,46],[45,45,45],[46,45,45,46],[45,45,46,45],[46,45,46],[46,46,46],[45],[46,46,45],[46,46,46,45],[46,45,45],[45,46,46,45],[45,46,45,45],[45,45,46,46]]:List (List UInt8)).getD ((IntKind.wrap .u8 (a0-65)).toNat) default).length):=ot
  rw[yp (Nat.le_refl _)]at hz1;subst hz1;dsimp only at hR;refine AWP.exit ?_;refine yc ?_;refine rS ?_;refine AWP.ret ?_;subst hR;exact es
end N271
def D_zsb : DF
 | [x0]=>some (ownL 2 1 yq (zsb (rdI x0)),false,[wI .u8 x0,65<=(rdI x0),(rdI x0)<=90])
 | _=>none
theorem yhw:OkD Tryz.prog 271 D_zsb:=by unfold D_zsb;exact dk N271.den
theorem yui (a:Int):zsb a=(y4c.getD (IntKind.wrap .u8 (a-65)).toNat default).map (fun c=>if c=46 then(5:Int)else 15):=by
 have h:=yhm (y7j a) (fun j=>[if((y4c.getD (IntKind.wrap .u8 (a-65)).toNat default).getD j 0)=46 then(5:Int)else 15]) (y4c.getD (IntKind.wrap .u8 (a-65)).toNat default).length 0 [] (fun j s _ _=>by
  show(bif ((((y4c.getD (IntKind.wrap .u8 (a-65)).toNat default).getD j 0).toNat:Int) == 46)then(.ok (s++[5]):Except (List Int) (List Int))else .ok (s++[15]))=_;generalize (y4c.getD (IntKind.wrap .u8 (a-65)).toNat default).getD j 0=c;by_cases hc:c=46
  ·subst hc;rfl
  ·have:((c.toNat:Int) == 46)=false:=by
    rw[beq_eq_false_iff_ne];intro h;exact hc (UInt8.toNat_inj.1 (by show c.toNat=46;omega))
   rw[this,if_neg hc];rfl)
 have e:zsb a=(match yh (y7j a) (y4c.getD (IntKind.wrap .u8 (a-65)).toNat default).length 0 ([]:List Int)with|.error e=>e|.ok s1=>s1):=rfl;rw[e,h];simp only[List.nil_append];exact yvu _ 0 (fun c=>if c=46 then(5:Int)else 15)
theorem yjt (a:Int):(zsb a).length<=4:=by
 rw[yui,List.length_map];exact y2h _
def zz (a0:Character):Bool:=
 ((a0.Kind == 1) || (((a0.Kind == 6) || (a0.Kind == 7)) && ((a0.Group.length:Int) == 0)))
namespace N170
theorem DD:DOk Tryz.prog (Go.Ab.DD []):=yb _
theorem den (a0:Character)  : Den Tryz.prog 170 [.ep (ym a0)] (.bool (zz a0)):=by
 generalize hR:zz a0=r;unfold zz at hR;refine di Tryz.func170 Tryz.ntmps170 Tryz.results170 ?_;intro c hL hc hk;obtain⟨hL0,_⟩:=hL;have hw0:bwCharacter a0:=yv a0 hL0;clear hL0;simp only[pars,Nat.zero_add];iterate 2 refine rS ?_
 refine AWP.ret ?_;subst hR;exact es
end N170
def D_zz : DF
 | [x0]=>some (.bool (zz (rdP ye x0)),false,[wP ym ye x0])
 | _=>none
theorem ylo:OkD Tryz.prog 170 D_zz:=by unfold D_zz;exact dk N170.den
def ymp (a0:(List Int)) (i1:Nat) (s1:Int):Except (Int) (Int):=
 .ok (IntKind.wrap .i64 (s1+(a0.getD i1 default)))
def zbe (a0:(List Int)):Int:=
 (match yh (ymp a0) (a0.length-0) 0 0 with|.error e=>e|.ok s1=>s1)
namespace N227
theorem DD:DOk Tryz.prog (Go.Ab.DD []):=yb _
theorem den (a0:(List Int))  : Den Tryz.prog 227 [encL 1 yq a0] (.int .i64 (zbe a0)):=by
 generalize hR:zbe a0=r;unfold zbe at hR;refine di Tryz.func227 Tryz.ntmps227 Tryz.results227 ?_;intro c hL hc hk;obtain⟨hL0,_⟩:=hL;have hw0:a0.length<9223372036854775808:=Nat.lt_succ_of_le (yf hL0).1;clear hL0;simp only[pars,Nat.zero_add];iterate 3 refine rS ?_
 refine AWP.block ?_;generalize hz1:yh (ymp a0) (a0.length-0) 0 0=z1 at hR;refine AWP.range (ymp a0) (fun i1 s1=>⟨[(0,encL 1 yq a0),(3,.int .i64 s1),(4,.int .i64 (i1:Int))],[]⟩) (fun i1 s1=>True) (a0.length) 0 0 [] hz1 ot wt sm ?_;clear hz1;intro i1 s1 hi1 hW1 hz1;refine rS ?_;refine AWP.cond rfl (fun hb => ?_) (fun hb => ?_)
 ·have hlt1:i1<a0.length:=ot
  rw[yn hlt1]at hz1;simp only[ymp]at hz1;iterate 2 refine rS ?_
  exact⟨_,[],hlt1,wt,hz1,sm⟩
 ·obtain rfl:i1=a0.length:=ot
  rw[yp (Nat.le_refl _)]at hz1;subst hz1;dsimp only at hR;refine AWP.exit ?_;refine yc ?_;refine rS ?_;refine AWP.ret ?_;subst hR;exact es
end N227
def D_zbe : DF
 | [x0]=>some (.int .i64 (zbe (rdL ydb x0)),false,[wL 1 yq ydb x0])
 | _=>none
theorem ygx:OkD Tryz.prog 227 D_zbe:=by unfold D_zbe;exact dk N227.den
def zzc (a0:Int):Int:=
 (bif (a0 == 2)then 10 else(bif (a0 == 4)then 15 else(bif (a0 == 5)then 20 else(bif (a0 == 7)then 3 else 5))))
namespace N233
theorem DD:DOk Tryz.prog (Go.Ab.DD []):=yb _
theorem den (a0:Int)  : Den Tryz.prog 233 [.int .i64 a0] (.int .i64 (zzc a0)):=by
 generalize hR:zzc a0=r;unfold zzc at hR;refine di Tryz.func233 Tryz.ntmps233 Tryz.results233 ?_;intro c hL hc hk;clear hL;simp only[pars,Nat.zero_add];iterate 3 refine rS ?_
 refine AWP.cond rfl (fun hb => ?_) (fun hb => ?_)
 ·replace hR:=ct hR
  refine rS ?_;refine AWP.ret ?_;subst hR;exact es
 ·replace hR:=cf hR
  refine rS ?_;refine AWP.cond rfl (fun hb => ?_) (fun hb => ?_)
  ·replace hR:=ct hR
   refine rS ?_;refine AWP.ret ?_;subst hR;exact es
  ·replace hR:=cf hR
   refine rS ?_;refine AWP.cond rfl (fun hb => ?_) (fun hb => ?_)
   ·replace hR:=ct hR
    refine rS ?_;refine AWP.ret ?_;subst hR;exact es
   ·replace hR:=cf hR
    refine rS ?_;refine AWP.cond rfl (fun hb => ?_) (fun hb => ?_)
    ·replace hR:=ct hR
     refine rS ?_;refine AWP.ret ?_;subst hR;exact es
    ·replace hR:=cf hR
     refine rS ?_;refine AWP.ret ?_;subst hR;exact es
end N233
def D_zzc : DF
 | [x0]=>some (.int .i64 (zzc (rdI x0)),false,[wI .i64 x0])
 | _=>none
theorem yup:OkD Tryz.prog 233 D_zzc:=by unfold D_zzc;exact dk N233.den
def zce (a0:Int):Int:=
 (bif (a0 == 2)then 10 else(bif (a0 == 5)then 20 else(bif (a0 == 7)then 2 else 5)))
namespace N272
theorem DD:DOk Tryz.prog (Go.Ab.DD []):=yb _
theorem den (a0:Int)  : Den Tryz.prog 272 [.int .i64 a0] (.int .i64 (zce a0)):=by
 generalize hR:zce a0=r;unfold zce at hR;refine di Tryz.func272 Tryz.ntmps272 Tryz.results272 ?_;intro c hL hc hk;clear hL;simp only[pars,Nat.zero_add];iterate 3 refine rS ?_
 refine AWP.cond rfl (fun hb => ?_) (fun hb => ?_)
 ·replace hR:=ct hR
  refine rS ?_;refine AWP.ret ?_;subst hR;exact es
 ·replace hR:=cf hR
  refine rS ?_;refine AWP.cond rfl (fun hb => ?_) (fun hb => ?_)
  ·replace hR:=ct hR
   refine rS ?_;refine AWP.ret ?_;subst hR;exact es
  ·replace hR:=cf hR
   refine rS ?_;refine AWP.cond rfl (fun hb => ?_) (fun hb => ?_)
   ·replace hR:=ct hR
    refine rS ?_;refine AWP.ret ?_;subst hR;exact es
   ·replace hR:=cf hR
    refine rS ?_;refine AWP.ret ?_;subst hR;exact es
end N272
def D_zce : DF
 | [x0]=>some (.int .i64 (zce (rdI x0)),false,[wI .i64 x0])
 | _=>none
theorem ywu:OkD Tryz.prog 272 D_zce:=by unfold D_zce;exact dk N272.den
end Go.Ab
