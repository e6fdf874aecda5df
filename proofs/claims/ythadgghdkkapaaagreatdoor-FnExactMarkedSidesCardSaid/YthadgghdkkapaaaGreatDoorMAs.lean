/- A part of a proof: walks of functions and lemmas of our own. No conditions. -/
import Derived.Test.YthadgghdkkapaaaGreatDoorMAl
import Derived.Test.YthadgghdkkapaaaGreatDoorMAr
import Derived.Test.YthadgghdkkapaaaGreatDoorMAq
set_option linter.unusedSectionVars false
set_option linter.unusedVariables false
set_option linter.unusedSimpArgs false
set_option maxHeartbeats 1000000



namespace Go.Ab
open Go Go.Proofs
def zue (a0:Danger):Bool:=
 (((znb a0.Name) && (zyb a0.At)) && (za a0.Radius 1 20000))
namespace N47
theorem DD:DOk Tryz.prog (Go.Ab.DD [(100,dP D_znb),(101,dP D_za),(50,dP D_zyb)]):=ya y5o.e <| ya y9b.e <| ya yrj.e <| yc _
theorem dn:type_of% (And.intro @D_znb.eq_1 <| And.intro @D_za.eq_1 <| @D_zyb.eq_1):=by and_intros<;>intros<;>rfl
theorem ol:type_of% (@za.eq_1):=@za.eq_1
theorem den (a0:Danger)  : Den Tryz.prog 47 [.agg (eDanger a0)] (.bool (zue a0)):=by
 generalize hR:zue a0=r;unfold zue at hR;refine di Tryz.func47 Tryz.ntmps47 Tryz.results47 ?_;intro c hL hc hk;obtain⟨hL0,_⟩:=hL;have hw0:bwDanger a0:=y8 a0 hL0;clear hL0;simp only[pars,Nat.zero_add];iterate 2 refine rS ?_
 refine AWP.ret ?_;subst hR;exact es
end N47
def D_zue : DF
 | [x0]=>some (.bool (zue (rdG yy x0)),false,[wG eDanger yy x0])
 | _=>none
theorem ybv:OkD Tryz.prog 47 D_zue:=by unfold D_zue;exact dk N47.den
def zjf (a0:Int):Bool:=
 (za a0 0 20000)
namespace N48
theorem DD:DOk Tryz.prog (Go.Ab.DD [(101,dP D_za)]):=ya y9b.e <| yc _
theorem dn:type_of% (@D_za.eq_1):=by and_intros<;>intros<;>rfl
theorem ol:type_of% (@za.eq_1):=@za.eq_1
theorem den (a0:Int)  : Den Tryz.prog 48 [.int .i64 a0] (.bool (zjf a0)):=by
 generalize hR:zjf a0=r;unfold zjf at hR;refine di Tryz.func48 Tryz.ntmps48 Tryz.results48 ?_;intro c hL hc hk;clear hL;simp only[pars,Nat.zero_add];iterate 2 refine rS ?_
 refine AWP.ret ?_;subst hR;exact es
end N48
def D_zjf : DF
 | [x0]=>some (.bool (zjf (rdI x0)),false,[wI .i64 x0])
 | _=>none
theorem ybu:OkD Tryz.prog 48 D_zjf:=by unfold D_zjf;exact dk N48.den
def zsd (a0:Aid) (a1:Int) (a2:Danger) (a3:Int):Bool:=
 ((a0.Mark.Kind == a1) && (zpe a2 a0 a3))
namespace N61
theorem DD:DOk Tryz.prog (Go.Ab.DD [(57,dP D_zpe)]):=ya ytu.e <| yc _
theorem dn:type_of% (@D_zpe.eq_1):=by and_intros<;>intros<;>rfl
theorem den (a0:Aid) (a1:Int) (a2:Danger) (a3:Int)  : Den Tryz.prog 61 [.agg (eAid a0),.ep (yl a1),.ep (eDanger a2),.ep (yl a3)] (.bool (zsd a0 a1 a2 a3)):=by
 generalize hR:zsd a0 a1 a2 a3=r;unfold zsd at hR;refine di Tryz.func61 Tryz.ntmps61 Tryz.results61 ?_;intro c hL hc hk;obtain⟨hL0,hL1,hL2,hL3,_⟩:=hL;have hw0:bwAid a0:=y9 a0 hL0;have hw1:bwDanger a2:=y8 a2 hL2;clear hL0 hL1 hL2 hL3;simp only[pars,Nat.zero_add];iterate 2 refine rS ?_
 refine AWP.ret ?_;subst hR;exact es
end N61
def D_zsd : DF
 | [x0,x1,x2,x3]=>some (.bool (zsd (rdG dAid x0) (rdP yab x1) (rdP yy x2) (rdP yab x3)),false,[wG eAid dAid x0,wP yl yab x1,wP eDanger yy x2,wP yl yab x3])
 | _=>none
theorem yiw:OkD Tryz.prog 61 D_zsd:=by unfold D_zsd;exact dk N61.den
def y4k (a0:(List Aid)) (a1:Int) (a2:Danger) (a3:Int) (i1:Nat) (s1:Unit):Except (Int) (Unit):=
 (bif (zsd (a0.getD i1 default) a1 a2 a3)then .error (i1:Int)else .ok ())
def zgc (a0:(List Aid)) (a1:Int) (a2:Danger) (a3:Int):Int:=
 (match yf (y4k a0 a1 a2 a3) (a0.length-0) 0 ()with|.error e=>e|.ok s1=>(-1))
namespace N_zgc
theorem DD:DOk Tryz.prog (Go.Ab.DD [(61,dP D_zsd)]):=ya yiw.e <| yc _
theorem dn:type_of% (@D_zsd.eq_1):=by and_intros<;>intros<;>rfl
theorem den (a0:(List Aid)) (a1:Int) (a2:Danger) (a3:Int)  : Den Tryz.prog 113 [encL 16 eAid a0,.fn 61 0 [.ep (yl a1),.ep (eDanger a2),.ep (yl a3)]] (.int .i64 (zgc a0 a1 a2 a3)):=by
 generalize hR:zgc a0 a1 a2 a3=r;unfold zgc at hR;refine di Tryz.func113 Tryz.ntmps113 Tryz.results113 ?_;intro c hL hc hk;obtain⟨hL0,hL1,_⟩:=hL;have hw0:a0.length<9223372036854775808:=Nat.lt_succ_of_le (ye hL0).1;have hw1:∀ v∈a0,bwAid v:=fun v hv=>y9 v ((ye hL0).2 v hv)
 have hw2:bwDanger a2:=y8 a2 hL1.2.1;clear hL0 hL1;simp only[pars,Nat.zero_add];iterate 2 refine rS ?_
 refine AWP.block ?_;generalize hz1:yf (y4k a0 a1 a2 a3) (a0.length-0) 0 ()=z1 at hR;refine AWP.range (y4k a0 a1 a2 a3) (fun i1 s1=>⟨[(0,encL 16 eAid a0),(1,.fn 61 0 [.ep (yl a1),.ep (eDanger a2),.ep (yl a3)]),(7,.int .i64 (a0.length:Int)),(8,.int .i64 (i1:Int))],[]⟩) (fun i1 s1=>True) (a0.length) 0 () [] hz1 ot wt sm ?_;clear hz1;intro i1 s1 hi1 hW1 hz1;refine rS ?_;refine AWP.seq ?_;refine AWP.cond rfl (fun hb => ?_) (fun hb => ?_)
 ·have hlt1:i1<a0.length:=ot
  rw[yk hlt1]at hz1;simp only[y4k]at hz1;iterate 2 refine rS ?_
  refine AWP.cond rfl (fun hb => ?_) (fun hb => ?_)
  ·simp only[hb,cond_true]at hz1
   refine rS ?_;refine AWP.ret ?_;subst hz1;dsimp only at hR;subst hR;exact es
  ·simp only[hb,cond_false]at hz1
   refine rS ?_;exact⟨_,[],hlt1,wt,hz1,sm⟩
 ·obtain rfl:i1=a0.length:=ot
  rw[yj (Nat.le_refl _)]at hz1;subst hz1;dsimp only at hR;refine AWP.exit ?_;refine yb ?_;refine rS ?_;refine AWP.ret ?_;subst hR;exact es
end N_zgc
def D_zgc : DF
 | [x0,(.fn f61_4 kf61_4 [y1,y2,y3])]=>some (.int .i64 (zgc (rdL dAid x0) (rdP yab y1) (rdP yy y2) (rdP yab y3)),false,[wL 16 eAid dAid x0,y1=.ep (yl (rdP yab y1)),y2=.ep (eDanger (rdP yy y2)),y3=.ep (yl (rdP yab y3)),f61_4=61,kf61_4=0])
 | _=>none
theorem y4v:OkD Tryz.prog 113 D_zgc:=by
 intro xs r z ob h ho;unfold D_zgc at h;split at h
 ·simp only[Option.some.injEq,Prod.mk.injEq]at h
  obtain⟨rfl,rfl,rfl⟩:=h;obtain⟨h0,qy1,qy2,qy3,qf61_4,qkf61_4,_⟩:=ho;exact Den.sim (N_zgc.den _ _ _ _ ) (yhb (yii h0).1 <| yhb (by subst qf61_4 qkf61_4;rw[<- qy1, <- qy2, <- qy3];exact yjf _) <| trivial) (ylb (yii h0).2 <| ylb (by rw[qy1,qy2,qy3];rfl) <| rfl) rfl
 ·cases h
def zpb (a0:(List Aid)) (a1:Int) (a2:Danger) (a3:Int):Bool:=
 decide (0<=(zgc a0 a1 a2 a3))
namespace N_zpb
theorem DD:DOk Tryz.prog (Go.Ab.DD [(113,dP D_zgc)]):=ya y4v.e <| yc _
theorem dn:type_of% (@D_zgc.eq_1):=by and_intros<;>intros<;>rfl
theorem den (a0:(List Aid)) (a1:Int) (a2:Danger) (a3:Int)  : Den Tryz.prog 60 [encL 16 eAid a0,.fn 61 0 [.ep (yl a1),.ep (eDanger a2),.ep (yl a3)]] (.bool (zpb a0 a1 a2 a3)):=by
 generalize hR:zpb a0 a1 a2 a3=r;unfold zpb at hR;refine di Tryz.func60 Tryz.ntmps60 Tryz.results60 ?_;intro c hL hc hk;obtain⟨hL0,hL1,_⟩:=hL;have hw0:a0.length<9223372036854775808:=Nat.lt_succ_of_le (ye hL0).1;have hw1:∀ v∈a0,bwAid v:=fun v hv=>y9 v ((ye hL0).2 v hv)
 have hw2:bwDanger a2:=y8 a2 hL1.2.1;clear hL0 hL1;simp only[pars,Nat.zero_add];iterate 2 refine rS ?_
 refine AWP.ret ?_;subst hR;exact es
end N_zpb
def D_zpb : DF
 | [x0,(.fn f61_4 kf61_4 [y1,y2,y3])]=>some (.bool (zpb (rdL dAid x0) (rdP yab y1) (rdP yy y2) (rdP yab y3)),false,[wL 16 eAid dAid x0,y1=.ep (yl (rdP yab y1)),y2=.ep (eDanger (rdP yy y2)),y3=.ep (yl (rdP yab y3)),f61_4=61,kf61_4=0])
 | _=>none
theorem ycv:OkD Tryz.prog 60 D_zpb:=by
 intro xs r z ob h ho;unfold D_zpb at h;split at h
 ·simp only[Option.some.injEq,Prod.mk.injEq]at h
  obtain⟨rfl,rfl,rfl⟩:=h;obtain⟨h0,qy1,qy2,qy3,qf61_4,qkf61_4,_⟩:=ho;exact Den.sim (N_zpb.den _ _ _ _ ) (yhb (yii h0).1 <| yhb (by subst qf61_4 qkf61_4;rw[<- qy1, <- qy2, <- qy3];exact yjf _) <| trivial) (ylb (yii h0).2 <| ylb (by rw[qy1,qy2,qy3];rfl) <| rfl) rfl
 ·cases h
end Go.Ab
