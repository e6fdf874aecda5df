/- A part of a proof: walks of functions and lemmas of our own. No conditions. -/
import Derived.Test.YthadgghdkkapaaaGreatDoorMAl
import Derived.Test.YthadgghdkkapaaaGreatDoorMAo
import Derived.Test.YthadgghdkkapaaaGreatDoorMAk
import Derived.Test.YthadgghdkkapaaaGreatDoorMAi
set_option linter.unusedSectionVars false
set_option linter.unusedVariables false
set_option linter.unusedSimpArgs false
set_option maxHeartbeats 1000000
namespace Go.Ab
open Go Go.Proofs
def zac (a0:Int):Int:=
 (IntKind.wrap .i64 ((a0.tmod 360)+360)).tmod 360
namespace N288
theorem DD:DOk Tryz.prog (Go.Ab.DD []):=yc _
theorem den (a0:Int)  : Den Tryz.prog 288 [.int .i64 a0] (.int .i64 (zac a0)):=by
 generalize hR:zac a0=r;unfold zac at hR;refine di Tryz.func288 Tryz.ntmps288 Tryz.results288 ?_;intro c hL hc hk;clear hL;simp only[pars,Nat.zero_add];iterate 2 refine rS ?_
 refine AWP.ret ?_;subst hR;exact es
end N288
def D_zac : DF
 | [x0]=>some (.int .i64 (zac (rdI x0)),false,[wI .i64 x0])
 | _=>none
theorem yqu:OkD Tryz.prog 288 D_zac:=by unfold D_zac;exact dk N288.den
theorem ypk (a:Int):0<=zac a/\zac a<360:=by
 unfold zac;have h1 : -360<a.tmod 360:=Int.lt_tmod_of_pos a (by decide);have h2:a.tmod 360<360:=Int.tmod_lt_of_pos a (by decide);rw[show IntKind.wrap .i64 (a.tmod 360+360)=a.tmod 360+360 by rw[IntKind.wrap_i64];omega];exact⟨Int.tmod_nonneg _ (by omega),Int.tmod_lt_of_pos _ (by decide)⟩
def zi  : (List Int):=
 ([0,17452,34899,52336,69756,87156,104528,121869,139173,156434,173648,190809,207912,224951,241922,258819,275637,292372,309017,325568,342020,358368,374607,390731,406737,422618,438371,453990,469472,484810,500000,515038,529919,544639,559193,573576,587785,601815,615661,629320,642788,656059,669131,681998,694658,707107,719340,731354,743145,754710,766044,777146,788011,798636,809017,819152,829038,838671,848048,857167,866025,874620,882948,891007,898794,906308,913545,920505,927184,933580,939693,945519,951057,956305,961262,965926,970296,974370,978148,981627,984808,987688,990268,992546,994522,996195,997564,998630,999391,999848,1000000]:List Int)
namespace N267
theorem DD:DOk Tryz.prog (Go.Ab.DD []):=yc _
theorem o3 {p:Prop} (h:p:=by(first|(exact y6x zi _ _ rfl rfl));first|done|fail):p:=h
theorem lx {p:Prop} (h:p:=by(exact lxx);first|done|fail):p:=h
set_option maxHeartbeats 1000000 in
set_option maxRecDepth 20000 in
theorem den   : Den Tryz.prog 267 [] (ownL 2 1 yl (zi)):=by
 generalize hR:zi=r;unfold zi at hR;refine di Tryz.func267 Tryz.ntmps267 Tryz.results267 ?_;intro c hL hc hk;clear hL;simp only[pars,Nat.zero_add];iterate 2 refine rS ?_
 refine AWP.ret ?_;subst hR;exact es
end N267
def D_zi : DF
 | []=>some (ownL 2 1 yl zi,false,[])
 | _=>none
theorem y2y:OkD Tryz.prog 267 D_zi:=by unfold D_zi;exact dk N267.den
def ztc (a0:(List Int)) (a1:Int):Int:=
 (bif decide (180<=(zac a1))then(bif decide (90<(IntKind.wrap .i64 ((zac a1)-180)))then IntKind.wrap .i64 ((-1) * (a0.getD ((IntKind.wrap .i64 (180-(IntKind.wrap .i64 ((zac a1)-180)))).toNat) default))else IntKind.wrap .i64 ((-1) * (a0.getD ((IntKind.wrap .i64 ((zac a1)-180)).toNat) default)))else(bif decide (90<(zac a1))then IntKind.wrap .i64 (1 * (a0.getD ((IntKind.wrap .i64 (180-(zac a1))).toNat) default))else IntKind.wrap .i64 (1 * (a0.getD (((zac a1)).toNat) default))))
namespace N268
theorem DD:DOk Tryz.prog (Go.Ab.DD [(288,dP D_zac)]):=ya yqu.e <| yc _
theorem dn:type_of% (@D_zac.eq_1):=by and_intros<;>intros<;>rfl
theorem den (a0:(List Int)) (a1:Int) (hp0:91<=a0.length):Den Tryz.prog 268 [encL 1 yl a0,.int .i64 a1] (.int .i64 (ztc a0 a1)):=by
 generalize hR:ztc a0 a1=r;unfold ztc at hR;refine di Tryz.func268 Tryz.ntmps268 Tryz.results268 ?_;intro c hL hc hk;obtain⟨hL0,hL1,_⟩:=hL;have hw0:a0.length<9223372036854775808:=Nat.lt_succ_of_le (ye hL0).1;clear hL0 hL1;simp only[pars,Nat.zero_add];have hA:=ypk a1;iterate 4 refine rS ?_
 refine AWP.cond rfl (fun hb => ?_) (fun hb => ?_)
 ·replace hR:=ct hR
  iterate 3 refine rS ?_
  refine AWP.cond rfl (fun hb => ?_) (fun hb => ?_)
  ·replace hR:=ct hR
   iterate 2 refine rS ?_
   refine AWP.ret ?_;subst hR;exact es
  ·replace hR:=cf hR
   refine rS ?_;refine AWP.ret ?_;subst hR;exact es
 ·replace hR:=cf hR
  refine rS ?_;refine AWP.cond rfl (fun hb => ?_) (fun hb => ?_)
  ·replace hR:=ct hR
   iterate 2 refine rS ?_
   refine AWP.ret ?_;subst hR;exact es
  ·replace hR:=cf hR
   refine rS ?_;refine AWP.ret ?_;subst hR;exact es
end N268
def D_ztc : DF
 | [x0,x1]=>some (.int .i64 (ztc (rdL yab x0) (rdI x1)),false,[wL 1 yl yab x0,wI .i64 x1,91<=(rdL yab x0).length])
 | _=>none
theorem ytw:OkD Tryz.prog 268 D_ztc:=by unfold D_ztc;exact dk N268.den
def yef (a0:Point) (a1:Point) (i1:Nat) (s1:Int×Int):Except (Int) (Int×Int):=
 (bif (((i1:Int) == 0) || decide (s1.2<(IntKind.wrap .i64 ((IntKind.wrap .i64 ((IntKind.wrap .i64 (a1.X-a0.X)) * (ztc (zi ) (i1:Int))))+(IntKind.wrap .i64 ((IntKind.wrap .i64 (a1.Y-a0.Y)) * (ztc (zi ) (IntKind.wrap .i64 ((i1:Int)+90)))))))))then .ok ((i1:Int),IntKind.wrap .i64 ((IntKind.wrap .i64 ((IntKind.wrap .i64 (a1.X-a0.X)) * (ztc (zi ) (i1:Int))))+(IntKind.wrap .i64 ((IntKind.wrap .i64 (a1.Y-a0.Y)) * (ztc (zi ) (IntKind.wrap .i64 ((i1:Int)+90)))))))else .ok (s1.1,s1.2))
def zhb (a0:Point) (a1:Point):Int:=
 (match yf (yef a0 a1) (360-0) 0 (0,0)with|.error e=>e|.ok s1=>s1.1)
namespace N223
theorem DD:DOk Tryz.prog (Go.Ab.DD [(267,dP D_zi),(268,dP D_ztc)]):=ya y2y.e <| ya ytw.e <| yc _
theorem dn:type_of% (And.intro @D_zi.eq_1 <| @D_ztc.eq_1):=by and_intros<;>intros<;>rfl
set_option maxHeartbeats 1000000 in
set_option maxRecDepth 20000 in
theorem den (a0:Point) (a1:Point)  : Den Tryz.prog 223 [.agg (ePoint a0),.agg (ePoint a1)] (.int .i64 (zhb a0 a1)):=by
 generalize hR:zhb a0 a1=r;unfold zhb at hR;refine di Tryz.func223 Tryz.ntmps223 Tryz.results223 ?_;intro c hL hc hk;clear hL;simp only[pars,Nat.zero_add];iterate 5 refine rS ?_
 refine AWP.block ?_;generalize hz1:yf (yef a0 a1) (360-0) 0 (0,0)=z1 at hR;refine AWP.range (yef a0 a1) (fun i1 s1=>⟨[(2,.ptr 0 0),(3,.ptr 1 0),(5,.int .i64 s1.1),(6,.int .i64 s1.2),(7,.ref 2 1 0 ((zi ).length)),(8,.int .i64 (i1:Int))],[.box [.int .i64 a0.X,.int .i64 a0.Y],.box [.int .i64 a1.X,.int .i64 a1.Y],.arr 2 1 (zi ).length (fun j=>yl ((zi ).getD j default))]⟩) (fun i1 s1=>True) (360) 0 (0,0) [0,1,2] hz1 ot wt sm ?_;clear hz1;intro i1 s1 hi1 hW1 hz1;refine rS ?_;refine AWP.cond rfl (fun hb => ?_) (fun hb => ?_)
 ·have hlt1:i1<360:=ot
  rw[yk hlt1]at hz1;simp only[yef]at hz1;refine rD 19 ?_;refine rS ?_;refine AWP.cond rfl (fun hb => ?_) (fun hb => ?_)
  ·simp only[hb,cond_true]at hz1
   iterate 3 refine rS ?_
   exact⟨_,[0,1,2],hlt1,wt,hz1,sm⟩
  ·simp only[hb,cond_false]at hz1
   refine rS ?_;exact⟨_,[0,1,2],hlt1,wt,hz1,sm⟩
 ·obtain rfl:i1=360:=ot
  rw[yj (Nat.le_refl _)]at hz1;subst hz1;dsimp only at hR;refine AWP.exit ?_;refine yb ?_;refine rS ?_;refine AWP.ret ?_;subst hR;exact es
end N223
def D_zhb : DF
 | [x0,x1]=>some (.int .i64 (zhb (rdG yw x0) (rdG yw x1)),false,[wG ePoint yw x0,wG ePoint yw x1])
 | _=>none
theorem ymv:OkD Tryz.prog 223 D_zhb:=by unfold D_zhb;exact dk N223.den
def ycq (a0:Int) (s1:Int×Int):Except (Sum (Int) (Int×Int)) (Int×Int):=
 (bif decide (s1.1<s1.2)then(bif decide ((IntKind.wrap .i64 ((IntKind.wrap .i64 ((IntKind.wrap .i64 ((IntKind.wrap .i64 (s1.1+s1.2))+1)).tdiv 2)) * (IntKind.wrap .i64 ((IntKind.wrap .i64 ((IntKind.wrap .i64 (s1.1+s1.2))+1)).tdiv 2))))<=a0)then .ok (IntKind.wrap .i64 ((IntKind.wrap .i64 ((IntKind.wrap .i64 (s1.1+s1.2))+1)).tdiv 2),s1.2)else .ok (s1.1,IntKind.wrap .i64 ((IntKind.wrap .i64 ((IntKind.wrap .i64 ((IntKind.wrap .i64 (s1.1+s1.2))+1)).tdiv 2))-1)))else .error (.inr (s1.1,s1.2)))
def zn (a0:Int):Int:=
 (match yfc (ycq a0) ((((3037000499:Int)-(0:Int)).toNat)+1) (0,3037000499)with|.error (.inl e)=>e|.error (.inr s1)=>s1.1|.ok _=>default)
namespace N247
theorem DD:DOk Tryz.prog (Go.Ab.DD []):=yc _
theorem den (a0:Int)  : Den Tryz.prog 247 [.int .i64 a0] (.int .i64 (zn a0)):=by
 generalize hR:zn a0=r;unfold zn at hR;refine di Tryz.func247 Tryz.ntmps247 Tryz.results247 ?_;intro c hL hc hk;clear hL;simp only[pars,Nat.zero_add];iterate 3 refine rS ?_
 refine AWP.seq ?_;refine AWP.block ?_;generalize hz1:yfc (ycq a0) ((((3037000499:Int)-(0:Int)).toNat)+1) (0,3037000499)=z1 at hR;refine AWP.whileW (ycq a0) (fun s1=>⟨[(0,.int .i64 a0),(3,.int .i64 s1.1),(4,.int .i64 s1.2)],[]⟩) (fun s1=>0<=s1.1/\s1.1<=s1.2/\s1.2<=3037000499) (fun s1=>(s1.2-s1.1).toNat) ((((3037000499:Int)-(0:Int)).toNat)+1) (0,3037000499) [] hz1 m0 (by(refine⟨?_,?_,?_⟩<;>decide)) sm ?_;clear hz1;intro s1 k1 hW1 hm1 hz1;simp only[ycq]at hz1;refine rS ?_;refine AWP.cond rfl (fun hb => ?_) (fun hb => ?_)
 ·simp only[hb,cond_true]at hz1
  iterate 2 refine rS ?_
  refine AWP.cond rfl (fun hb => ?_) (fun hb => ?_)
  ·simp only[hb,cond_true]at hz1
   refine rS ?_;exact⟨_,[],by(have hl:s1.1<s1.2:=of_decide_eq_true (by assumption);obtain⟨m1,m2,m3⟩:=ywd hW1.1 hl hW1.2.2;(try simp only[]);first|omega|(rw[m3];omega)|(refine⟨?_,?_,?_⟩<;>(try simp only[])<;>first|omega|(rw[m3];omega))),by(have hl:s1.1<s1.2:=of_decide_eq_true (by assumption);obtain⟨m1,m2,m3⟩:=ywd hW1.1 hl hW1.2.2;(try simp only[]);first|omega|(rw[m3];omega)|(refine⟨?_,?_,?_⟩<;>(try simp only[])<;>first|omega|(rw[m3];omega))),hz1,sm⟩
  ·simp only[hb,cond_false]at hz1
   refine rS ?_;exact⟨_,[],by(have hl:s1.1<s1.2:=of_decide_eq_true (by assumption);obtain⟨m1,m2,m3⟩:=ywd hW1.1 hl hW1.2.2;(try simp only[]);first|omega|(rw[m3];omega)|(refine⟨?_,?_,?_⟩<;>(try simp only[])<;>first|omega|(rw[m3];omega))),by(have hl:s1.1<s1.2:=of_decide_eq_true (by assumption);obtain⟨m1,m2,m3⟩:=ywd hW1.1 hl hW1.2.2;(try simp only[]);first|omega|(rw[m3];omega)|(refine⟨?_,?_,?_⟩<;>(try simp only[])<;>first|omega|(rw[m3];omega))),hz1,sm⟩
 ·simp only[hb,cond_false]at hz1
  refine AWP.exit ?_;refine yb ?_;subst hz1;dsimp only at hR;refine rS ?_;refine AWP.ret ?_;subst hR;exact es
end N247
def D_zn : DF
 | [x0]=>some (.int .i64 (zn (rdI x0)),false,[wI .i64 x0])
 | _=>none
theorem y9y:OkD Tryz.prog 247 D_zn:=by unfold D_zn;exact dk N247.den
def zkf (a0:Int):Int:=
 (bif (decide (315<=a0) || decide (a0<45))then 3 else(bif decide (a0<135)then 4 else(bif decide (a0<225)then 5 else 6)))
namespace N266
theorem DD:DOk Tryz.prog (Go.Ab.DD []):=yc _
theorem den (a0:Int)  : Den Tryz.prog 266 [.int .i64 a0] (.int .i64 (zkf a0)):=by
 generalize hR:zkf a0=r;unfold zkf at hR;refine di Tryz.func266 Tryz.ntmps266 Tryz.results266 ?_;intro c hL hc hk;clear hL;simp only[pars,Nat.zero_add];iterate 2 refine rS ?_
 refine AWP.cond rfl (fun hb => ?_) (fun hb => ?_)
 ·replace hR:=ct hR
  refine rS ?_;refine AWP.ret ?_;subst hR;exact es
 ·replace hR:=cf hR
  refine rS ?_;refine AWP.cond rfl (fun hb => ?_) (fun hb => ?_)
  ·replace hR:=ct hR
   refine rS ?_;refine AWP.ret ?_;subst hR;exact es
  ·replace hR:=cf hR
   refine rS ?_;refine AWP.cond rfl (fun hb => ?_) (fun hb => ?_)
   ·replace hR:=ct hR
    refine rS ?_;refine AWP.ret ?_;subst hR;exact es
   ·replace hR:=cf hR
    refine rS ?_;refine AWP.ret ?_;subst hR;exact es
end N266
def D_zkf : DF
 | [x0]=>some (.int .i64 (zkf (rdI x0)),false,[wI .i64 x0])
 | _=>none
theorem y3v:OkD Tryz.prog 266 D_zkf:=by unfold D_zkf;exact dk N266.den
def zb (a0:Int) (a1:Int) (a2:Int):Bool:=
 (decide (a1<=a0) && decide (a0<=a2))
namespace N81
theorem DD:DOk Tryz.prog (Go.Ab.DD []):=yc _
theorem den (a0:Int) (a1:Int) (a2:Int)  : Den Tryz.prog 81 [.int .i64 a0,.int .i64 a1,.int .i64 a2] (.bool (zb a0 a1 a2)):=by
 generalize hR:zb a0 a1 a2=r;unfold zb at hR;refine di Tryz.func81 Tryz.ntmps81 Tryz.results81 ?_;intro c hL hc hk;clear hL;simp only[pars,Nat.zero_add];iterate 2 refine rS ?_
 refine AWP.ret ?_;subst hR;exact es
end N81
def D_zb : DF
 | [x0,x1,x2]=>some (.bool (zb (rdI x0) (rdI x1) (rdI x2)),false,[wI .i64 x0,wI .i64 x1,wI .i64 x2])
 | _=>none
theorem yxc:OkD Tryz.prog 81 D_zb:=by unfold D_zb;exact dk N81.den
def zje (a0:Int):(Int×Int):=
 (bif (!(zb a0 0 359))then(0,2)else((zkf a0),0))
namespace N222
theorem DD:DOk Tryz.prog (Go.Ab.DD [(266,dP D_zkf),(81,dP D_zb)]):=ya y3v.e <| ya yxc.e <| yc _
theorem dn:type_of% (And.intro @D_zkf.eq_1 <| @D_zb.eq_1):=by and_intros<;>intros<;>rfl
theorem ol:type_of% (@zb.eq_1):=@zb.eq_1
theorem den (a0:Int)  : Den Tryz.prog 222 [.int .i64 a0] (.tup [.int .i64 ((zje a0).1),.int .i64 ((zje a0).2)]):=by
 generalize hR:zje a0=r;unfold zje at hR;refine di Tryz.func222 Tryz.ntmps222 Tryz.results222 ?_;intro c hL hc hk;clear hL;simp only[pars,Nat.zero_add];iterate 2 refine rS ?_
 refine AWP.cond rfl (fun hb => ?_) (fun hb => ?_)
 ·replace hR:=ct hR
  refine rS ?_;refine AWP.ret ?_;subst hR;exact es
 ·replace hR:=cf hR
  refine rS ?_;refine AWP.ret ?_;subst hR;exact es
end N222
def D_zje : DF
 | [x0]=>some (.tup [.int .i64 ((zje (rdI x0)).1),.int .i64 ((zje (rdI x0)).2)],false,[wI .i64 x0])
 | _=>none
theorem y0v:OkD Tryz.prog 222 D_zje:=by unfold D_zje;exact dk N222.den
def zve (a0:Danger) (a1:Point):Int:=
 (zje (zhb a0.At a1)).1
namespace N164
theorem DD:DOk Tryz.prog (Go.Ab.DD [(222,dP D_zje),(223,dP D_zhb)]):=ya y0v.e <| ya ymv.e <| yc _
theorem dn:type_of% (And.intro @D_zje.eq_1 <| @D_zhb.eq_1):=by and_intros<;>intros<;>rfl
theorem den (a0:Danger) (a1:Point)  : Den Tryz.prog 164 [.ep (eDanger a0),.agg (ePoint a1)] (.int .i64 (zve a0 a1)):=by
 generalize hR:zve a0 a1=r;unfold zve at hR;refine di Tryz.func164 Tryz.ntmps164 Tryz.results164 ?_;intro c hL hc hk;obtain⟨hL0,hL1,_⟩:=hL;have hw0:bwDanger a0:=y8 a0 hL0;clear hL0 hL1;simp only[pars,Nat.zero_add];refine rS ?_;refine AWP.seq ?_;refine AWP.regP mixed G_ok DD hc 11 [0,1,2,3,4,5,6,7,8,9] (.alt 10 [] [9] .leaf .stop) (by kernel_rfl) (by kernel_rfl) (by kernel_rfl) (fun K hK => ?_);simp only[y8u,runN,runP,y1e,nthO,ea,absV,absVL,cput,gv,sv,dn,reduceCtorEq,reduceIte,Nat.reduceBEq,Nat.reduceAdd,Nat.reduceEqDiff,Nat.reduceLT,Nat.reduceLeDiff,Nat.reduceMul,Nat.reduceSub,BEq.rfl,beq_self_eq_true,Int.reduceToNat];repeat' apply And.intro
 all_goals first|refine hK _ ?_|exact ot
 all_goals clear hK K
 refine rS ?_;refine AWP.ret ?_;subst hR;exact es
end N164
def D_zve : DF
 | [x0,x1]=>some (.int .i64 (zve (rdP yy x0) (rdG yw x1)),false,[wP eDanger yy x0,wG ePoint yw x1])
 | _=>none
theorem y0u:OkD Tryz.prog 164 D_zve:=by unfold D_zve;exact dk N164.den
def zkd (a0:Point) (a1:Point):Int:=
 IntKind.wrap .i64 ((IntKind.wrap .i64 ((IntKind.wrap .i64 (a0.X-a1.X)) * (IntKind.wrap .i64 (a0.X-a1.X))))+(IntKind.wrap .i64 ((IntKind.wrap .i64 (a0.Y-a1.Y)) * (IntKind.wrap .i64 (a0.Y-a1.Y)))))
namespace N248
theorem DD:DOk Tryz.prog (Go.Ab.DD []):=yc _
theorem den (a0:Point) (a1:Point)  : Den Tryz.prog 248 [.agg (ePoint a0),.agg (ePoint a1)] (.int .i64 (zkd a0 a1)):=by
 generalize hR:zkd a0 a1=r;unfold zkd at hR;refine di Tryz.func248 Tryz.ntmps248 Tryz.results248 ?_;intro c hL hc hk;clear hL;simp only[pars,Nat.zero_add];iterate 2 refine rS ?_
 refine AWP.ret ?_;subst hR;exact es
end N248
def D_zkd : DF
 | [x0,x1]=>some (.int .i64 (zkd (rdG yw x0) (rdG yw x1)),false,[wG ePoint yw x0,wG ePoint yw x1])
 | _=>none
theorem yiv:OkD Tryz.prog 248 D_zkd:=by unfold D_zkd;exact dk N248.den
def ztd (a0:Point) (a1:Point):Int:=
 (zn (zkd a0 a1))
namespace N194
theorem DD:DOk Tryz.prog (Go.Ab.DD [(247,dP D_zn),(248,dP D_zkd)]):=ya y9y.e <| ya yiv.e <| yc _
theorem dn:type_of% (And.intro @D_zn.eq_1 <| @D_zkd.eq_1):=by and_intros<;>intros<;>rfl
theorem den (a0:Point) (a1:Point)  : Den Tryz.prog 194 [.agg (ePoint a0),.agg (ePoint a1)] (.int .i64 (ztd a0 a1)):=by
 generalize hR:ztd a0 a1=r;unfold ztd at hR;refine di Tryz.func194 Tryz.ntmps194 Tryz.results194 ?_;intro c hL hc hk;clear hL;simp only[pars,Nat.zero_add];iterate 2 refine rS ?_
 refine AWP.ret ?_;subst hR;exact es
end N194
def D_ztd : DF
 | [x0,x1]=>some (.int .i64 (ztd (rdG yw x0) (rdG yw x1)),false,[wG ePoint yw x0,wG ePoint yw x1])
 | _=>none
theorem yhu:OkD Tryz.prog 194 D_ztd:=by unfold D_ztd;exact dk N194.den
def zfd (a0:Danger) (a1:Aid) (a2:Int):Bool:=
 (bif ((!(zb a1.Mark.Kind 3 6)) || (a1.At.X == a0.At.X && a1.At.Y == a0.At.Y))then false else((zb (ztd a0.At a1.At) a0.Radius (IntKind.wrap .i64 (a0.Radius+a2))) && ((zve a0 a1.At) == a1.Mark.Kind)))
namespace N135
theorem DD:DOk Tryz.prog (Go.Ab.DD [(164,dP D_zve),(194,dP D_ztd),(81,dP D_zb)]):=ya y0u.e <| ya yhu.e <| ya yxc.e <| yc _
theorem dn:type_of% (And.intro @D_zve.eq_1 <| And.intro @D_ztd.eq_1 <| @D_zb.eq_1):=by and_intros<;>intros<;>rfl
theorem ol:type_of% (@zb.eq_1):=@zb.eq_1
theorem den (a0:Danger) (a1:Aid) (a2:Int)  : Den Tryz.prog 135 [.ep (eDanger a0),.ep (eAid a1),.int .i64 a2] (.bool (zfd a0 a1 a2)):=by
 generalize hR:zfd a0 a1 a2=r;unfold zfd at hR;refine di Tryz.func135 Tryz.ntmps135 Tryz.results135 ?_;intro c hL hc hk;obtain⟨hL0,hL1,hL2,_⟩:=hL;have hw0:bwDanger a0:=y8 a0 hL0;have hw1:bwAid a1:=y9 a1 hL1;clear hL0 hL1 hL2;simp only[pars,Nat.zero_add];refine rS ?_;refine rD 18 ?_;refine AWP.cond rfl (fun hb => ?_) (fun hb => ?_)
 ·replace hR:=ct hR
  refine rS ?_;refine AWP.ret ?_;subst hR;exact es
 ·replace hR:=cf hR
  refine rD 34 ?_;refine AWP.ret ?_;subst hR;exact es
end N135
def D_zfd : DF
 | [x0,x1,x2]=>some (.bool (zfd (rdP yy x0) (rdP dAid x1) (rdI x2)),false,[wP eDanger yy x0,wP eAid dAid x1,wI .i64 x2])
 | _=>none
theorem yuw:OkD Tryz.prog 135 D_zfd:=by unfold D_zfd;exact dk N135.den
def zlb (a0:Point):Bool:=
 ((zb a0.X 0 200000) && (zb a0.Y 0 200000))
namespace N117
theorem DD:DOk Tryz.prog (Go.Ab.DD [(81,dP D_zb)]):=ya yxc.e <| yc _
theorem dn:type_of% (@D_zb.eq_1):=by and_intros<;>intros<;>rfl
theorem ol:type_of% (@zb.eq_1):=@zb.eq_1
theorem den (a0:Point)  : Den Tryz.prog 117 [.agg (ePoint a0)] (.bool (zlb a0)):=by
 generalize hR:zlb a0=r;unfold zlb at hR;refine di Tryz.func117 Tryz.ntmps117 Tryz.results117 ?_;intro c hL hc hk;clear hL;simp only[pars,Nat.zero_add];iterate 2 refine rS ?_
 refine AWP.ret ?_;subst hR;exact es
end N117
def D_zlb : DF
 | [x0]=>some (.bool (zlb (rdG yw x0)),false,[wG ePoint yw x0])
 | _=>none
theorem yap:OkD Tryz.prog 117 D_zlb:=by unfold D_zlb;exact dk N117.den
def yqj (a0:(List Int)) (a1:Int) (i1:Nat) (s1:Bool×List Int):Except ((List Int)) (Bool×List Int):=
 (bif ((!s1.1) && decide (a1<=(a0.getD i1 default)))then(bif decide (a1<(a0.getD i1 default))then .ok (true,(s1.2++([a1]:List Int))++([(a0.getD i1 default)]:List Int))else .ok (true,s1.2++([(a0.getD i1 default)]:List Int)))else .ok (s1.1,s1.2++([(a0.getD i1 default)]:List Int)))
def zhc (a0:(List Int)) (a1:Int):(List Int):=
 (match yf (yqj a0 a1) (a0.length-0) 0 (false,([]:List Int))with|.error e=>e|.ok s1=>(bif (!s1.1)then s1.2++([a1]:List Int)else s1.2))
namespace N136
theorem DD:DOk Tryz.prog (Go.Ab.DD []):=yc _
theorem den (a0:(List Int)) (a1:Int) (hb0:a0.length<1099511627776):Den Tryz.prog 136 [encL 1 yl a0,.int .i64 a1] (ownL 2 1 yl (zhc a0 a1)):=by
 generalize hR:zhc a0 a1=r;unfold zhc at hR;refine di Tryz.func136 Tryz.ntmps136 Tryz.results136 ?_;intro c hL hc hk;obtain⟨hL0,hL1,_⟩:=hL;have hw0:a0.length<9223372036854775808:=Nat.lt_succ_of_le (ye hL0).1;clear hL0 hL1;simp only[pars,Nat.zero_add];iterate 4 refine rS ?_
 refine AWP.block ?_;generalize hz1:yf (yqj a0 a1) (a0.length-0) 0 (false,([]:List Int))=z1 at hR;refine AWP.range (yqj a0 a1) (fun i1 s1=>⟨[(0,encL 1 yl a0),(1,.int .i64 a1),(5,.ref 0 1 0 s1.2.length),(6,.bool s1.1),(7,.int .i64 (i1:Int))],[.arr 2 1 s1.2.length (fun j=>yl (s1.2.getD j default))]⟩) (fun i1 s1=>s1.2.length<=([]:List Int).length+2 * i1/\s1.2.length<=i1+1/\(s1.1=false->s1.2.length<=i1)) (a0.length) 0 (false,([]:List Int)) [0] hz1 ot (by(simp)) sm ?_;clear hz1;intro i1 s1 hi1 hW1 hz1;refine rS ?_;refine AWP.cond rfl (fun hb => ?_) (fun hb => ?_)
 ·have hlt1:i1<a0.length:=ot
  rw[yk hlt1]at hz1;simp only[yqj]at hz1;refine rS ?_;refine AWP.cond rfl (fun hb => ?_) (fun hb => ?_)
  ·simp only[hb,cond_true]at hz1
   iterate 2 refine rS ?_
   refine AWP.cond rfl (fun hb => ?_) (fun hb => ?_)
   ·simp only[hb,cond_true]at hz1
    iterate 3 refine rS ?_
    exact⟨_,[4],hlt1,by(cases s1 with|mk d l=>cases d<;>simp_all<;>omega),hz1,sm⟩
   ·simp only[hb,cond_false]at hz1
    iterate 2 refine rS ?_
    exact⟨_,[2],hlt1,by(cases s1 with|mk d l=>cases d<;>simp_all<;>omega),hz1,sm⟩
  ·simp only[hb,cond_false]at hz1
   iterate 2 refine rS ?_
   exact⟨_,[2],hlt1,by(cases s1 with|mk d l=>cases d<;>simp_all<;>omega),hz1,sm⟩
 ·obtain rfl:i1=a0.length:=ot
  rw[yj (Nat.le_refl _)]at hz1;subst hz1;dsimp only at hR;refine AWP.exit ?_;refine yb ?_;refine rS ?_;refine AWP.cond rfl (fun hb => ?_) (fun hb => ?_)
  ·replace hR:=ct hR
   iterate 2 refine rS ?_
   refine AWP.ret ?_;subst hR;exact es
  ·replace hR:=cf hR
   refine rS ?_;refine AWP.ret ?_;subst hR;exact es
end N136
def D_zhc : DF
 | [x0,x1]=>some (ownL 2 1 yl (zhc (rdL yab x0) (rdI x1)),false,[wL 1 yl yab x0,wI .i64 x1,(rdL yab x0).length<1099511627776])
 | _=>none
theorem y1u:OkD Tryz.prog 136 D_zhc:=by unfold D_zhc;exact dk N136.den
theorem yeg (l:List Int) (n:Int):(zhc l n).length<=l.length+1:=by
 unfold zhc
 obtain⟨t,h1,h2⟩:=ybb (b:=yqj l n) (fun j s=>s.2.length<=j+1/\(s.1=false->s.2.length<=j)) (k:=l.length-0) (i:=0) (s:=(false,[])) (by simp) (by
  intro j u _ _ h;obtain⟨d,s⟩:=u;simp only[yqj]
  cases d with
  | true=>exact⟨_,rfl,by simp at h ⊢;omega⟩
  | false=>
   cases decide (n<=(l.getD j default))with
   | false=>exact⟨_,rfl,by simp at h ⊢;omega⟩
   | true=>
    cases decide (n<(l.getD j default))with
    | false=>exact⟨_,rfl,by simp at h ⊢;omega⟩
    | true=>exact⟨_,rfl,by simp at h ⊢;omega⟩)
 rw[h1];obtain⟨d,s⟩:=t
 cases d with
 | true=>simp at h2 ⊢;omega
 | false=>simp at h2 ⊢;omega
def zzc (a0:Int):Bool:=
 (decide (97<=a0) && decide (a0<=122))
namespace N166
theorem DD:DOk Tryz.prog (Go.Ab.DD []):=yc _
theorem den (a0:Int)  : Den Tryz.prog 166 [.int .u8 a0] (.bool (zzc a0)):=by
 generalize hR:zzc a0=r;unfold zzc at hR;refine di Tryz.func166 Tryz.ntmps166 Tryz.results166 ?_;intro c hL hc hk;clear hL;simp only[pars,Nat.zero_add];iterate 2 refine rS ?_
 refine AWP.ret ?_;subst hR;exact es
end N166
def D_zzc : DF
 | [x0]=>some (.bool (zzc (rdI x0)),false,[wI .u8 x0])
 | _=>none
theorem y2w:OkD Tryz.prog 166 D_zzc:=by unfold D_zzc;exact dk N166.den
def zwe (a0:Int):Bool:=
 (decide (48<=a0) && decide (a0<=57))
namespace N167
theorem DD:DOk Tryz.prog (Go.Ab.DD []):=yc _
theorem den (a0:Int)  : Den Tryz.prog 167 [.int .u8 a0] (.bool (zwe a0)):=by
 generalize hR:zwe a0=r;unfold zwe at hR;refine di Tryz.func167 Tryz.ntmps167 Tryz.results167 ?_;intro c hL hc hk;clear hL;simp only[pars,Nat.zero_add];iterate 2 refine rS ?_
 refine AWP.ret ?_;subst hR;exact es
end N167
def D_zwe : DF
 | [x0]=>some (.bool (zwe (rdI x0)),false,[wI .u8 x0])
 | _=>none
theorem yku:OkD Tryz.prog 167 D_zwe:=by unfold D_zwe;exact dk N167.den
def ysp (a0:(List UInt8)) (i1:Nat) (s1:Unit):Except (Bool) (Unit):=
 (bif ((!(zzc ((a0.getD i1 0).toNat:Int))) && (!(zwe ((a0.getD i1 0).toNat:Int))))then .error false else .ok ())
def zib (a0:(List UInt8)):Bool:=
 (bif (((a0 == []) || decide (10<(a0.length:Int))) || (!(zzc ((a0.getD 0 0).toNat:Int))))then false else(match yf (ysp a0) (a0.length-0) 0 ()with|.error e=>e|.ok s1=>true))
namespace N116
theorem DD:DOk Tryz.prog (Go.Ab.DD [(166,dP D_zzc),(167,dP D_zwe)]):=ya y2w.e <| ya yku.e <| yc _
theorem dn:type_of% (And.intro @D_zzc.eq_1 <| @D_zwe.eq_1):=by and_intros<;>intros<;>rfl
theorem den (a0:(List UInt8))  : Den Tryz.prog 116 [.str a0] (.bool (zib a0)):=by
 generalize hR:zib a0=r;unfold zib at hR;refine di Tryz.func116 Tryz.ntmps116 Tryz.results116 ?_;intro c hL hc hk;obtain⟨hL0,_⟩:=hL;have hw0:a0.length<9223372036854775808:=Nat.lt_succ_of_le hL0;clear hL0;simp only[pars,Nat.zero_add];iterate 2 refine rS ?_
 refine AWP.cond rfl (fun hb => ?_) (fun hb => ?_)
 ·replace hR:=ct hR
  refine rS ?_;refine AWP.ret ?_;subst hR;exact es
 ·replace hR:=cf hR
  refine rS ?_;refine AWP.block ?_;generalize hz1:yf (ysp a0) (a0.length-0) 0 ()=z1 at hR;refine AWP.range (ysp a0) (fun i1 s1=>⟨[(0,.str a0),(3,.int .i64 (i1:Int))],[]⟩) (fun i1 s1=>True) (a0.length) 0 () [] hz1 ot wt sm ?_;clear hz1;intro i1 s1 hi1 hW1 hz1;refine rS ?_;refine AWP.cond rfl (fun hb => ?_) (fun hb => ?_)
  ·have hlt1:i1<a0.length:=ot
   rw[yk hlt1]at hz1;simp only[ysp]at hz1;refine rS ?_;refine AWP.cond rfl (fun hb => ?_) (fun hb => ?_)
   ·simp only[hb,cond_true]at hz1
    refine rS ?_;refine AWP.ret ?_;subst hz1;dsimp only at hR;subst hR;exact es
   ·simp only[hb,cond_false]at hz1
    refine rS ?_;exact⟨_,[],hlt1,wt,hz1,sm⟩
  ·obtain rfl:i1=a0.length:=ot
   rw[yj (Nat.le_refl _)]at hz1;subst hz1;dsimp only at hR;refine AWP.exit ?_;refine yb ?_;refine rS ?_;refine AWP.ret ?_;subst hR;exact es
end N116
def D_zib : DF
 | [x0]=>some (.bool (zib (rdS x0)),false,[wS x0])
 | _=>none
theorem ylo:OkD Tryz.prog 116 D_zib:=by unfold D_zib;exact dk N116.den
def yok (a0:(List Int)) (i1:Nat) (s1:Int):Except (Int) (Int):=
 .ok (IntKind.wrap .i64 (s1+(a0.getD i1 default)))
def zuc (a0:(List Int)):Int:=
 (bif ((a0.length:Int) == 0)then 1 else(match yf (yok a0) (a0.length-0) 0 0 with|.error e=>e|.ok s1=>s1))
namespace N270
theorem DD:DOk Tryz.prog (Go.Ab.DD []):=yc _
theorem den (a0:(List Int))  : Den Tryz.prog 270 [encL 1 yl a0] (.int .i64 (zuc a0)):=by
 generalize hR:zuc a0=r;unfold zuc at hR;refine di Tryz.func270 Tryz.ntmps270 Tryz.results270 ?_;intro c hL hc hk;obtain⟨hL0,_⟩:=hL;have hw0:a0.length<9223372036854775808:=Nat.lt_succ_of_le (ye hL0).1;clear hL0;simp only[pars,Nat.zero_add];iterate 2 refine rS ?_
 refine AWP.cond rfl (fun hb => ?_) (fun hb => ?_)
 ·replace hR:=ct hR
  refine rS ?_;refine AWP.ret ?_;subst hR;exact es
 ·replace hR:=cf hR
  iterate 2 refine rS ?_
  refine AWP.block ?_;generalize hz1:yf (yok a0) (a0.length-0) 0 0=z1 at hR;refine AWP.range (yok a0) (fun i1 s1=>⟨[(0,encL 1 yl a0),(3,.int .i64 s1),(4,.int .i64 (i1:Int))],[]⟩) (fun i1 s1=>True) (a0.length) 0 0 [] hz1 ot wt sm ?_;clear hz1;intro i1 s1 hi1 hW1 hz1;refine rS ?_;refine AWP.cond rfl (fun hb => ?_) (fun hb => ?_)
  ·have hlt1:i1<a0.length:=ot
   rw[yk hlt1]at hz1;simp only[yok]at hz1;iterate 2 refine rS ?_
   exact⟨_,[],hlt1,wt,hz1,sm⟩
  ·obtain rfl:i1=a0.length:=ot
   rw[yj (Nat.le_refl _)]at hz1;subst hz1;dsimp only at hR;refine AWP.exit ?_;refine yb ?_;refine rS ?_;refine AWP.ret ?_;subst hR;exact es
end N270
def D_zuc : DF
 | [x0]=>some (.int .i64 (zuc (rdL yab x0)),false,[wL 1 yl yab x0])
 | _=>none
theorem y6w:OkD Tryz.prog 270 D_zuc:=by unfold D_zuc;exact dk N270.den
def y6k (a0:(List Int)) (i1:Nat) (s1:Unit):Except (Bool) (Unit):=
 (bif (!(zb (a0.getD i1 default) 1 9))then .error false else .ok ())
def zqb (a0:(List Int)):Bool:=
 (match yf (y6k a0) (a0.length-0) 0 ()with|.error e=>e|.ok s1=>((decide ((a0.length:Int)<=4) && (!(((a0.length:Int) == 1) && ((a0.getD 0 default) == 1)))) && decide ((zuc a0)<=12)))
namespace N226
theorem DD:DOk Tryz.prog (Go.Ab.DD [(270,dP D_zuc),(81,dP D_zb)]):=ya y6w.e <| ya yxc.e <| yc _
theorem dn:type_of% (And.intro @D_zuc.eq_1 <| @D_zb.eq_1):=by and_intros<;>intros<;>rfl
theorem ol:type_of% (@zb.eq_1):=@zb.eq_1
theorem den (a0:(List Int))  : Den Tryz.prog 226 [encL 1 yl a0] (.bool (zqb a0)):=by
 generalize hR:zqb a0=r;unfold zqb at hR;refine di Tryz.func226 Tryz.ntmps226 Tryz.results226 ?_;intro c hL hc hk;obtain⟨hL0,_⟩:=hL;have hw0:a0.length<9223372036854775808:=Nat.lt_succ_of_le (ye hL0).1;clear hL0;simp only[pars,Nat.zero_add];iterate 2 refine rS ?_
 refine AWP.block ?_;generalize hz1:yf (y6k a0) (a0.length-0) 0 ()=z1 at hR;refine AWP.range (y6k a0) (fun i1 s1=>⟨[(0,encL 1 yl a0),(3,.int .i64 (i1:Int))],[]⟩) (fun i1 s1=>True) (a0.length) 0 () [] hz1 ot wt sm ?_;clear hz1;intro i1 s1 hi1 hW1 hz1;refine rS ?_;refine AWP.cond rfl (fun hb => ?_) (fun hb => ?_)
 ·have hlt1:i1<a0.length:=ot
  rw[yk hlt1]at hz1;simp only[y6k]at hz1;refine rS ?_;refine AWP.cond rfl (fun hb => ?_) (fun hb => ?_)
  ·simp only[hb,cond_true]at hz1
   refine rS ?_;refine AWP.ret ?_;subst hz1;dsimp only at hR;subst hR;exact es
  ·simp only[hb,cond_false]at hz1
   refine rS ?_;exact⟨_,[],hlt1,wt,hz1,sm⟩
 ·obtain rfl:i1=a0.length:=ot
  rw[yj (Nat.le_refl _)]at hz1;subst hz1;dsimp only at hR;refine AWP.exit ?_;refine yb ?_;refine rS ?_;refine AWP.ret ?_;subst hR;exact es
end N226
def D_zqb : DF
 | [x0]=>some (.bool (zqb (rdL yab x0)),false,[wL 1 yl yab x0])
 | _=>none
theorem yyw:OkD Tryz.prog 226 D_zqb:=by unfold D_zqb;exact dk N226.den
def zld (a0:Int):Int:=
 (bif (a0 == 87)then 1 else(bif (a0 == 82)then 2 else(bif (a0 == 71)then 3 else(bif (a0 == 89)then 4 else 0))))
namespace N269
theorem DD:DOk Tryz.prog (Go.Ab.DD []):=yc _
theorem den (a0:Int)  : Den Tryz.prog 269 [.int .u8 a0] (.int .i64 (zld a0)):=by
 generalize hR:zld a0=r;unfold zld at hR;refine di Tryz.func269 Tryz.ntmps269 Tryz.results269 ?_;intro c hL hc hk;clear hL;simp only[pars,Nat.zero_add];iterate 3 refine rS ?_
 refine AWP.cond rfl (fun hb => ?_) (fun hb => ?_)
 ·replace hR:=ct hR
  refine rS ?_;refine AWP.ret ?_;subst hR;exact es
 ·replace hR:=cf hR
  refine rS ?_;refine AWP.cond rfl (fun hb => ?_) (fun hb => ?_)
  ·replace hR:=ct hR
   refine rS ?_;refine AWP.ret ?_;subst hR;exact es
  ·replace hR:=cf hR
   refine rS ?_;refine AWP.cond rfl (fun hb => ?_) (fun hb => ?_)
   ·replace hR:=ct hR
    refine rS ?_;refine AWP.ret ?_;subst hR;exact es
   ·replace hR:=cf hR
    refine rS ?_;refine AWP.cond rfl (fun hb => ?_) (fun hb => ?_)
    ·replace hR:=ct hR
     refine rS ?_;refine AWP.ret ?_;subst hR;exact es
    ·replace hR:=cf hR
     refine rS ?_;refine AWP.ret ?_;subst hR;exact es
end N269
def D_zld : DF
 | [x0]=>some (.int .i64 (zld (rdI x0)),false,[wI .u8 x0])
 | _=>none
theorem y8v:OkD Tryz.prog 269 D_zld:=by unfold D_zld;exact dk N269.den
def y5i (a0:(List UInt8)) (i1:Nat) (s1:Unit):Except (Bool) (Unit):=
 (bif (((zld ((a0.getD i1 0).toNat:Int)) == 0) || (decide (0<(i1:Int)) && decide ((zld ((a0.getD i1 0).toNat:Int))<=(zld ((a0.getD ((IntKind.wrap .i64 ((i1:Int)-1)).toNat) 0).toNat:Int)))))then .error false else .ok ())
def zic (a0:(List UInt8)):Bool:=
 (match yf (y5i a0) (a0.length-0) 0 ()with|.error e=>e|.ok s1=>(decide (1<=(a0.length:Int)) && decide ((a0.length:Int)<=3)))
namespace N225
theorem DD:DOk Tryz.prog (Go.Ab.DD [(269,dP D_zld)]):=ya y8v.e <| yc _
theorem dn:type_of% (@D_zld.eq_1):=by and_intros<;>intros<;>rfl
theorem den (a0:(List UInt8))  : Den Tryz.prog 225 [.str a0] (.bool (zic a0)):=by
 generalize hR:zic a0=r;unfold zic at hR;refine di Tryz.func225 Tryz.ntmps225 Tryz.results225 ?_;intro c hL hc hk;obtain⟨hL0,_⟩:=hL;have hw0:a0.length<9223372036854775808:=Nat.lt_succ_of_le hL0;clear hL0;simp only[pars,Nat.zero_add];iterate 2 refine rS ?_
 refine AWP.block ?_;generalize hz1:yf (y5i a0) (a0.length-0) 0 ()=z1 at hR;refine AWP.range (y5i a0) (fun i1 s1=>⟨[(0,.str a0),(3,.int .i64 (i1:Int))],[]⟩) (fun i1 s1=>True) (a0.length) 0 () [] hz1 ot wt sm ?_;clear hz1;intro i1 s1 hi1 hW1 hz1;refine rS ?_;refine AWP.cond rfl (fun hb => ?_) (fun hb => ?_)
 ·have hlt1:i1<a0.length:=ot
  rw[yk hlt1]at hz1;simp only[y5i]at hz1;refine rD 21 ?_;refine AWP.cond rfl (fun hb => ?_) (fun hb => ?_)
  ·simp only[hb,cond_true]at hz1
   refine rS ?_;refine AWP.ret ?_;subst hz1;dsimp only at hR;subst hR;exact es
  ·simp only[hb,cond_false]at hz1
   refine rS ?_;exact⟨_,[],hlt1,wt,hz1,sm⟩
 ·obtain rfl:i1=a0.length:=ot
  rw[yj (Nat.le_refl _)]at hz1;subst hz1;dsimp only at hR;refine AWP.exit ?_;refine yb ?_;refine rS ?_;refine AWP.ret ?_;subst hR;exact es
end N225
def D_zic : DF
 | [x0]=>some (.bool (zic (rdS x0)),false,[wS x0])
 | _=>none
theorem y7w:OkD Tryz.prog 225 D_zic:=by unfold D_zic;exact dk N225.den
def zlf (a0:Int):Bool:=
 (zb a0 1 8)
namespace N224
theorem DD:DOk Tryz.prog (Go.Ab.DD [(81,dP D_zb)]):=ya yxc.e <| yc _
theorem dn:type_of% (@D_zb.eq_1):=by and_intros<;>intros<;>rfl
theorem ol:type_of% (@zb.eq_1):=@zb.eq_1
theorem den (a0:Int)  : Den Tryz.prog 224 [.int .i64 a0] (.bool (zlf a0)):=by
 generalize hR:zlf a0=r;unfold zlf at hR;refine di Tryz.func224 Tryz.ntmps224 Tryz.results224 ?_;intro c hL hc hk;clear hL;simp only[pars,Nat.zero_add];iterate 2 refine rS ?_
 refine AWP.ret ?_;subst hR;exact es
end N224
def D_zlf : DF
 | [x0]=>some (.bool (zlf (rdI x0)),false,[wI .i64 x0])
 | _=>none
theorem y0w:OkD Tryz.prog 224 D_zlf:=by unfold D_zlf;exact dk N224.den
def zmd (a0:Character):Bool:=
 (bif ((!(zlf a0.Kind)) || (!(zic a0.Colors)))then false else(bif (a0.Kind == 1)then(((a0.Group.length:Int) == 0) && (a0.Letter == []))else(bif (a0.Kind == 3)then(((a0.Group.length:Int) == 0) && (a0.Letter == []))else(bif (a0.Kind == 6)then(bif (a0.Letter == [76])then(((a0.Group.length:Int) == 1) && ((a0.Group.getD 0 default) == 6))else(((a0.Letter == []) && decide ((a0.Group.length:Int)<=1)) && (zqb a0.Group)))else(bif (a0.Kind == 7)then(bif (a0.Letter == [76])then(((a0.Group.length:Int) == 1) && ((a0.Group.getD 0 default) == 6))else(((a0.Letter == []) && decide ((a0.Group.length:Int)<=1)) && (zqb a0.Group)))else(bif (a0.Kind == 8)then(((((a0.Group.length:Int) == 0) && ((a0.Letter.length:Int) == 1)) && decide (65<=((a0.Letter.getD 0 0).toNat:Int))) && decide (((a0.Letter.getD 0 0).toNat:Int)<=90))else((a0.Letter == []) && (zqb a0.Group))))))))
namespace N169
theorem DD:DOk Tryz.prog (Go.Ab.DD [(224,dP D_zlf),(225,dP D_zic),(226,dP D_zqb)]):=ya y0w.e <| ya y7w.e <| ya yyw.e <| yc _
theorem dn:type_of% (And.intro @D_zlf.eq_1 <| And.intro @D_zic.eq_1 <| @D_zqb.eq_1):=by and_intros<;>intros<;>rfl
theorem den (a0:Character)  : Den Tryz.prog 169 [.ep (eCharacter a0)] (.bool (zmd a0)):=by
 generalize hR:zmd a0=r;unfold zmd at hR;refine di Tryz.func169 Tryz.ntmps169 Tryz.results169 ?_;intro c hL hc hk;obtain⟨hL0,_⟩:=hL;have hw0:bwCharacter a0:=yn a0 hL0;clear hL0;simp only[pars,Nat.zero_add];iterate 2 refine rS ?_
 refine AWP.cond rfl (fun hb => ?_) (fun hb => ?_)
 ·replace hR:=ct hR
  refine rS ?_;refine AWP.ret ?_;subst hR;exact es
 ·replace hR:=cf hR
  iterate 2 refine rS ?_
  refine AWP.cond rfl (fun hb => ?_) (fun hb => ?_)
  ·replace hR:=ct hR
   refine AWP.skip ?_;refine AWP.cond rfl (fun hb => ?_) (fun hb => ?_)
   ·refine rS ?_
    refine AWP.ret ?_;subst hR;exact es
   ·exfalso;simp_all
  ·replace hR:=cf hR
   refine rS ?_;refine AWP.cond rfl (fun hb => ?_) (fun hb => ?_)
   ·replace hR:=ct hR
    refine rS ?_;refine AWP.ret ?_;subst hR;exact es
   ·replace hR:=cf hR
    refine rS ?_;refine AWP.cond rfl (fun hb => ?_) (fun hb => ?_)
    ·replace hR:=ct hR
     refine AWP.skip ?_;refine AWP.cond rfl (fun hb => ?_) (fun hb => ?_)
     ·refine rS ?_
      refine AWP.cond rfl (fun hb => ?_) (fun hb => ?_)
      ·replace hR:=ct hR
       refine rS ?_;refine AWP.ret ?_;subst hR;exact es
      ·replace hR:=cf hR
       refine rS ?_;refine AWP.ret ?_;subst hR;exact es
     ·exfalso;simp_all
    ·replace hR:=cf hR
     refine rS ?_;refine AWP.cond rfl (fun hb => ?_) (fun hb => ?_)
     ·replace hR:=ct hR
      refine rS ?_;refine AWP.cond rfl (fun hb => ?_) (fun hb => ?_)
      ·replace hR:=ct hR
       refine rS ?_;refine AWP.ret ?_;subst hR;exact es
      ·replace hR:=cf hR
       refine rS ?_;refine AWP.ret ?_;subst hR;exact es
     ·replace hR:=cf hR
      refine rS ?_;refine AWP.cond rfl (fun hb => ?_) (fun hb => ?_)
      ·replace hR:=ct hR
       refine rS ?_;refine AWP.ret ?_;subst hR;exact es
      ·replace hR:=cf hR
       refine rS ?_;refine AWP.ret ?_;subst hR;exact es
end N169
def D_zmd : DF
 | [x0]=>some (.bool (zmd (rdP yd x0)),false,[wP eCharacter yd x0])
 | _=>none
theorem ycu:OkD Tryz.prog 169 D_zmd:=by unfold D_zmd;exact dk N169.den
def yeq (a0:Int) (i1:Nat) (s1:List Int):Except ((List Int)) (List Int):=
 (bif ((((([[46,45],[45,46,46,46],[45,46,45,46],[45,46,46],[46],[46,46,45,46],[45,45,46],[46,46,46,46],[46,46],[46,45,45,45],[45,46,45],[46,45,46,46],[45,45],[45,46],[45,45,45],[46,45,45,46],[45,45,46,45],[46,45,46],[46,46,46],[45],[46,46,45],[46,46,46,45],[46,45,45],[45,46,46,45],[45,46,45,45],[45,45,46,46]]:List (List UInt8)).getD ((IntKind.wrap .u8 (a0-65)).toNat) default).getD i1 0).toNat:Int) == 46)then .ok (s1++([5]:List Int))else .ok (s1++([15]:List Int)))
def zq (a0:Int):(List Int):=
 (match yf (yeq a0) (((([[46,45],[45,46,46,46],[45,46,45,46],[45,46,46],[46],[46,46,45,46],[45,45,46],[46,46,46,46],[46,46],[46,45,45,45],[45,46,45],[46,45,46,46],[45,45],[45,46],[45,45,45],[46,45,45,46],[45,45,46,45],[46,45,46],[46,46,46],[45],[46,46,45],[46,46,46,45],[46,45,45],[45,46,46,45],[45,46,45,45],[45,45,46,46]]:List (List UInt8)).getD ((IntKind.wrap .u8 (a0-65)).toNat) default).length)-0) 0 ([]:List Int)with|.error e=>e|.ok s1=>s1)
namespace N271
theorem DD:DOk Tryz.prog (Go.Ab.DD []):=yc _
theorem lx {p:Prop} (h:p:=by(exact lxx);first|done|fail):p:=h
theorem den (a0:Int) (hp0:65<=a0) (hp1:a0<=90):Den Tryz.prog 271 [.int .u8 a0] (ownL 2 1 yl (zq a0)):=by
 generalize hR:zq a0=r;unfold zq at hR;refine di Tryz.func271 Tryz.ntmps271 Tryz.results271 ?_;intro c hL hc hk;clear hL;simp only[pars,Nat.zero_add];have hs9:=y3u (IntKind.wrap .u8 (a0-65)).toNat;have hw9:IntKind.wrap .u8 (a0-65)=a0-65:=y4h _ (by omega) (by omega);iterate 5 refine rS ?_
 refine AWP.block ?_;generalize hz1:yf (yeq a0) (((([[46,45],[45,46,46,46],[45,46,45,46],[45,46,46],[46],[46,46,45,46],[45,45,46],[46,46,46,46],[46,46],[46,45,45,45],[45,46,45],[46,45,46,46],[45,45],[45,46],[45,45,45],[46,45,45,46],[45,45,46,45],[46,45,46],[46,46,46],[45],[46,46,45],[46,46,46,45],[46,45,45],[45,46,46,45],[45,46,45,45],[45,45,46,46]]:List (List UInt8)).getD ((IntKind.wrap .u8 (a0-65)).toNat) default).length)-0) 0 ([]:List Int)=z1 at hR;refine AWP.range (yeq a0) (fun i1 s1=>⟨[(4,.str (([[46,45],[45,46,46,46],[45,46,45,46],[45,46,46],[46],[46,46,45,46],[45,45,46],[46,46,46,46],[46,46],[46,45,45,45],[45,46,45],[46,45,46,46],[45,45],[45,46],[45,45,45],[46,45,45,46],[45,45,46,45],[46,45,46],[46,46,46],[45],[46,46,45],[46,46,46,45],[46,45,45],[45,46,46,45],[45,46,45,45],[45,45,46,46]]:List (List UInt8)).getD ((IntKind.wrap .u8 (a0-65)).toNat) default)),(5,.ref 0 1 0 s1.length),(6,.int .i64 (i1:Int))],[.arr 2 1 s1.length (fun j=>yl (s1.getD j default))]⟩) (fun i1 s1=>s1.length<=([]:List Int).length+1 * i1/\s1.length<=i1) (((([[46,45],[45,46,46,46],[45,46,45,46],[45,46,46],[46],[46,46,45,46],[45,45,46],[46,46,46,46],[46,46],[46,45,45,45],[45,46,45],[46,45,46,46],[45,45],[45,46],[45,45,45],[46,45,45,46],[45,45,46,45],[46,45,46],[46,46,46],[45],[46,46,45],[46,46,46,45],[46,45,45],[45,46,46,45],[45,46,45,45],[45,45,46,46]]:List (List UInt8)).getD ((IntKind.wrap .u8 (a0-65)).toNat) default).length)) 0 ([]:List Int) [1] hz1 ot wt sm ?_;clear hz1;intro i1 s1 hi1 hW1 hz1;refine rS ?_;refine AWP.cond rfl (fun hb => ?_) (fun hb => ?_)
 ·have hlt1:i1<((([[46,45],[45,46,46,46],[45,46,45,46],[45,46,46],[46],[46,46,45,46],[45,45,46],[46,46,46,46],[46,46],[46,45,45,45],[45,46,45],[46,45,46,46],[45,45],[45,46],[45,45,45],[46,45,45,46],[45,45,46,45],[46,45,46],[46,46,46],[45],[46,46,45],[46,46,46,45],[46,45,45],[45,46,46,45],[45,46,45,45],[45,45,46,46]]:List (List UInt8)).getD ((IntKind.wrap .u8 (a0-65)).toNat) default).length):=ot
  rw[yk hlt1]at hz1;simp only[yeq]at hz1;refine rS ?_;refine AWP.cond rfl (fun hb => ?_) (fun hb => ?_)
  ·simp only[hb,cond_true]at hz1
   iterate 2 refine rS ?_
   exact⟨_,[2],hlt1,wt,hz1,sm⟩
  ·simp only[hb,cond_false]at hz1
   iterate 2 refine rS ?_
   exact⟨_,[2],hlt1,wt,hz1,sm⟩
 ·obtain rfl:i1=((([[46,45],[45,46,46,46],[45,46,45,46],[45,46,46],[46],[46,46,45,46],[45,45,46],[46,46,46,46],[46,46],[46,45,45,45],[45,46,45],[46,45,46,46],[45,45],[45,46],[45,45,45],[46,45,45,46],[45,45,46,45],[46,45,46],[46,46,46],[45],[46,46,45],[46,46,46,45],[46,45,45],[45,46,46,45],[45,46,45,45],[45,45,46,46]]:List (List UInt8)).getD ((IntKind.wrap .u8 (a0-65)).toNat) default).length):=ot
  rw[yj (Nat.le_refl _)]at hz1;subst hz1;dsimp only at hR;refine AWP.exit ?_;refine yb ?_;refine rS ?_;refine AWP.ret ?_;subst hR;exact es
end N271
def D_zq : DF
 | [x0]=>some (ownL 2 1 yl (zq (rdI x0)),false,[wI .u8 x0,65<=(rdI x0),(rdI x0)<=90])
 | _=>none
theorem ysy:OkD Tryz.prog 271 D_zq:=by unfold D_zq;exact dk N271.den
theorem y8h (a:Int):zq a=(ypc.getD (IntKind.wrap .u8 (a-65)).toNat default).map (fun c=>if c=46 then(5:Int)else 15):=by
 have h:=yqk (yeq a) (fun j=>[if((ypc.getD (IntKind.wrap .u8 (a-65)).toNat default).getD j 0)=46 then(5:Int)else 15]) (ypc.getD (IntKind.wrap .u8 (a-65)).toNat default).length 0 [] (fun j s _ _=>by
  show(bif ((((ypc.getD (IntKind.wrap .u8 (a-65)).toNat default).getD j 0).toNat:Int) == 46)then(.ok (s++[5]):Except (List Int) (List Int))else .ok (s++[15]))=_;generalize (ypc.getD (IntKind.wrap .u8 (a-65)).toNat default).getD j 0=c;by_cases hc:c=46
  ·subst hc;rfl
  ·have:((c.toNat:Int) == 46)=false:=by
    rw[beq_eq_false_iff_ne];intro h;exact hc (UInt8.toNat_inj.1 (by show c.toNat=46;omega))
   rw[this,if_neg hc];rfl)
 have e:zq a=(match yf (yeq a) (ypc.getD (IntKind.wrap .u8 (a-65)).toNat default).length 0 ([]:List Int)with|.error e=>e|.ok s1=>s1):=rfl;rw[e,h];simp only[List.nil_append];exact y8s _ 0 (fun c=>if c=46 then(5:Int)else 15)
theorem yps (a:Int):(zq a).length<=4:=by
 rw[y8h,List.length_map];exact ygh _
def znd (a0:Character):Bool:=
 ((a0.Kind == 1) || (((a0.Kind == 6) || (a0.Kind == 7)) && ((a0.Group.length:Int) == 0)))
namespace N170
theorem DD:DOk Tryz.prog (Go.Ab.DD []):=yc _
theorem den (a0:Character)  : Den Tryz.prog 170 [.ep (eCharacter a0)] (.bool (znd a0)):=by
 generalize hR:znd a0=r;unfold znd at hR;refine di Tryz.func170 Tryz.ntmps170 Tryz.results170 ?_;intro c hL hc hk;obtain⟨hL0,_⟩:=hL;have hw0:bwCharacter a0:=yn a0 hL0;clear hL0;simp only[pars,Nat.zero_add];iterate 2 refine rS ?_
 refine AWP.ret ?_;subst hR;exact es
end N170
def D_znd : DF
 | [x0]=>some (.bool (znd (rdP yd x0)),false,[wP eCharacter yd x0])
 | _=>none
theorem yno:OkD Tryz.prog 170 D_znd:=by unfold D_znd;exact dk N170.den
def y2o (a0:(List Int)) (i1:Nat) (s1:Int):Except (Int) (Int):=
 .ok (IntKind.wrap .i64 (s1+(a0.getD i1 default)))
def zgd (a0:(List Int)):Int:=
 (match yf (y2o a0) (a0.length-0) 0 0 with|.error e=>e|.ok s1=>s1)
namespace N227
theorem DD:DOk Tryz.prog (Go.Ab.DD []):=yc _
theorem den (a0:(List Int))  : Den Tryz.prog 227 [encL 1 yl a0] (.int .i64 (zgd a0)):=by
 generalize hR:zgd a0=r;unfold zgd at hR;refine di Tryz.func227 Tryz.ntmps227 Tryz.results227 ?_;intro c hL hc hk;obtain⟨hL0,_⟩:=hL;have hw0:a0.length<9223372036854775808:=Nat.lt_succ_of_le (ye hL0).1;clear hL0;simp only[pars,Nat.zero_add];iterate 3 refine rS ?_
 refine AWP.block ?_;generalize hz1:yf (y2o a0) (a0.length-0) 0 0=z1 at hR;refine AWP.range (y2o a0) (fun i1 s1=>⟨[(0,encL 1 yl a0),(3,.int .i64 s1),(4,.int .i64 (i1:Int))],[]⟩) (fun i1 s1=>True) (a0.length) 0 0 [] hz1 ot wt sm ?_;clear hz1;intro i1 s1 hi1 hW1 hz1;refine rS ?_;refine AWP.cond rfl (fun hb => ?_) (fun hb => ?_)
 ·have hlt1:i1<a0.length:=ot
  rw[yk hlt1]at hz1;simp only[y2o]at hz1;iterate 2 refine rS ?_
  exact⟨_,[],hlt1,wt,hz1,sm⟩
 ·obtain rfl:i1=a0.length:=ot
  rw[yj (Nat.le_refl _)]at hz1;subst hz1;dsimp only at hR;refine AWP.exit ?_;refine yb ?_;refine rS ?_;refine AWP.ret ?_;subst hR;exact es
end N227
def D_zgd : DF
 | [x0]=>some (.int .i64 (zgd (rdL yab x0)),false,[wL 1 yl yab x0])
 | _=>none
theorem y2v:OkD Tryz.prog 227 D_zgd:=by unfold D_zgd;exact dk N227.den
def zbc (a0:Int):Int:=
 (bif (a0 == 2)then 10 else(bif (a0 == 4)then 15 else(bif (a0 == 5)then 20 else(bif (a0 == 7)then 3 else 5))))
namespace N233
theorem DD:DOk Tryz.prog (Go.Ab.DD []):=yc _
theorem den (a0:Int)  : Den Tryz.prog 233 [.int .i64 a0] (.int .i64 (zbc a0)):=by
 generalize hR:zbc a0=r;unfold zbc at hR;refine di Tryz.func233 Tryz.ntmps233 Tryz.results233 ?_;intro c hL hc hk;clear hL;simp only[pars,Nat.zero_add];iterate 3 refine rS ?_
 refine AWP.cond rfl (fun hb => ?_) (fun hb => ?_)
 ·replace hR:=ct hR
  refine rS ?_;refine AWP.ret ?_;subst hR;exact es
 ·replace hR:=cf hR
  refine rS ?_;refine AWP.cond rfl (fun hb => ?_) (fun hb => ?_)
  ·replace hR:=ct hR
   refine rS ?_;refine AWP.ret ?_;subst hR;exact es
  ·replace hR:=cf hR
   refine rS ?_;refine AWP.cond rfl (fun hb => ?_) (fun hb => ?_)
   ·replace hR:=ct hR
    refine rS ?_;refine AWP.ret ?_;subst hR;exact es
   ·replace hR:=cf hR
    refine rS ?_;refine AWP.cond rfl (fun hb => ?_) (fun hb => ?_)
    ·replace hR:=ct hR
     refine rS ?_;refine AWP.ret ?_;subst hR;exact es
    ·replace hR:=cf hR
     refine rS ?_;refine AWP.ret ?_;subst hR;exact es
end N233
def D_zbc : DF
 | [x0]=>some (.int .i64 (zbc (rdI x0)),false,[wI .i64 x0])
 | _=>none
theorem y8n:OkD Tryz.prog 233 D_zbc:=by unfold D_zbc;exact dk N233.den
def zhd (a0:Int):Int:=
 (bif (a0 == 2)then 10 else(bif (a0 == 5)then 20 else(bif (a0 == 7)then 2 else 5)))
namespace N272
theorem DD:DOk Tryz.prog (Go.Ab.DD []):=yc _
theorem den (a0:Int)  : Den Tryz.prog 272 [.int .i64 a0] (.int .i64 (zhd a0)):=by
 generalize hR:zhd a0=r;unfold zhd at hR;refine di Tryz.func272 Tryz.ntmps272 Tryz.results272 ?_;intro c hL hc hk;clear hL;simp only[pars,Nat.zero_add];iterate 3 refine rS ?_
 refine AWP.cond rfl (fun hb => ?_) (fun hb => ?_)
 ·replace hR:=ct hR
  refine rS ?_;refine AWP.ret ?_;subst hR;exact es
 ·replace hR:=cf hR
  refine rS ?_;refine AWP.cond rfl (fun hb => ?_) (fun hb => ?_)
  ·replace hR:=ct hR
   refine rS ?_;refine AWP.ret ?_;subst hR;exact es
  ·replace hR:=cf hR
   refine rS ?_;refine AWP.cond rfl (fun hb => ?_) (fun hb => ?_)
   ·replace hR:=ct hR
    refine rS ?_;refine AWP.ret ?_;subst hR;exact es
   ·replace hR:=cf hR
    refine rS ?_;refine AWP.ret ?_;subst hR;exact es
end N272
def D_zhd : DF
 | [x0]=>some (.int .i64 (zhd (rdI x0)),false,[wI .i64 x0])
 | _=>none
theorem y5v:OkD Tryz.prog 272 D_zhd:=by unfold D_zhd;exact dk N272.den
end Go.Ab
