/- A part of a proof: walks of functions and lemmas of our own. No conditions. -/
import Derived.Test.YthadgghdkkapaaaGreatDoorPAl
import Derived.Test.YthadgghdkkapaaaGreatDoorPAq
import Derived.Test.YthadgghdkkapaaaGreatDoorPAp
set_option linter.unusedSectionVars false
set_option linter.unusedVariables false
set_option linter.unusedSimpArgs false
set_option maxHeartbeats 1000000



namespace Go.Ab
open Go Go.Proofs
def zub (a0:Danger):Bool:=
 (((zpc a0.Name) && (zwb a0.At)) && (zi a0.Radius 1 20000))
namespace N47
theorem DD:DOk Tryz.prog (Go.Ab.DD [(100,dP D_zpc),(101,dP D_zi),(50,dP D_zwb)]):=ya ylp.e <| ya yec.e <| ya ybh.e <| yb _
theorem dn:type_of% (And.intro @D_zpc.eq_1 <| And.intro @D_zi.eq_1 <| @D_zwb.eq_1):=by and_intros<;>intros<;>rfl
theorem ol:type_of% (@zi.eq_1):=@zi.eq_1
theorem den (a0:Danger)  : Den Tryz.prog 47 [.agg (yr a0)] (.bool (zub a0)):=by
 generalize hR:zub a0=r;unfold zub at hR;refine di Tryz.func47 Tryz.ntmps47 Tryz.results47 ?_;intro c hL hc hk;obtain⟨hL0,_⟩:=hL;have hw0:bwDanger a0:=y5 a0 hL0;clear hL0;simp only[pars,Nat.zero_add];iterate 2 refine rS ?_
 refine AWP.ret ?_;subst hR;exact es
end N47
def D_zub : DF
 | [x0]=>some (.bool (zub (rdG yu x0)),false,[wG yr yu x0])
 | _=>none
theorem ygh:OkD Tryz.prog 47 D_zub:=by unfold D_zub;exact dk N47.den
def zjc (a0:Int):Bool:=
 (zi a0 0 20000)
namespace N48
theorem DD:DOk Tryz.prog (Go.Ab.DD [(101,dP D_zi)]):=ya yec.e <| yb _
theorem dn:type_of% (@D_zi.eq_1):=by and_intros<;>intros<;>rfl
theorem ol:type_of% (@zi.eq_1):=@zi.eq_1
theorem den (a0:Int)  : Den Tryz.prog 48 [.int .i64 a0] (.bool (zjc a0)):=by
 generalize hR:zjc a0=r;unfold zjc at hR;refine di Tryz.func48 Tryz.ntmps48 Tryz.results48 ?_;intro c hL hc hk;clear hL;simp only[pars,Nat.zero_add];iterate 2 refine rS ?_
 refine AWP.ret ?_;subst hR;exact es
end N48
def D_zjc : DF
 | [x0]=>some (.bool (zjc (rdI x0)),false,[wI .i64 x0])
 | _=>none
theorem ycl:OkD Tryz.prog 48 D_zjc:=by unfold D_zjc;exact dk N48.den
def zne (a0:Aid) (a1:Int) (a2:Danger) (a3:Int):Bool:=
 ((a0.Mark.Kind == a1) && (zqd a2 a0 a3))
namespace N61
theorem DD:DOk Tryz.prog (Go.Ab.DD [(57,dP D_zqd)]):=ya yyo.e <| yb _
theorem dn:type_of% (@D_zqd.eq_1):=by and_intros<;>intros<;>rfl
theorem den (a0:Aid) (a1:Int) (a2:Danger) (a3:Int)  : Den Tryz.prog 61 [.agg (eAid a0),.ep (yq a1),.ep (yr a2),.ep (yq a3)] (.bool (zne a0 a1 a2 a3)):=by
 generalize hR:zne a0 a1 a2 a3=r;unfold zne at hR;refine di Tryz.func61 Tryz.ntmps61 Tryz.results61 ?_;intro c hL hc hk;obtain⟨hL0,hL1,hL2,hL3,_⟩:=hL;have hw0:bwAid a0:=yeb a0 hL0;have hw1:bwDanger a2:=y5 a2 hL2;clear hL0 hL1 hL2 hL3;simp only[pars,Nat.zero_add];iterate 2 refine rS ?_
 refine AWP.ret ?_;subst hR;exact es
end N61
def D_zne : DF
 | [x0,x1,x2,x3]=>some (.bool (zne (rdG dAid x0) (rdP ydb x1) (rdP yu x2) (rdP ydb x3)),false,[wG eAid dAid x0,wP yq ydb x1,wP yr yu x2,wP yq ydb x3])
 | _=>none
theorem ysv:OkD Tryz.prog 61 D_zne:=by unfold D_zne;exact dk N61.den
def yxl (a0:(List Aid)) (a1:Int) (a2:Danger) (a3:Int) (i1:Nat) (s1:Unit):Except (Int) (Unit):=
 (bif (zne (a0.getD i1 default) a1 a2 a3)then .error (i1:Int)else .ok ())
def zgd (a0:(List Aid)) (a1:Int) (a2:Danger) (a3:Int):Int:=
 (match yh (yxl a0 a1 a2 a3) (a0.length-0) 0 ()with|.error e=>e|.ok s1=>(-1))
namespace N_zgd
theorem DD:DOk Tryz.prog (Go.Ab.DD [(61,dP D_zne)]):=ya ysv.e <| yb _
theorem dn:type_of% (@D_zne.eq_1):=by and_intros<;>intros<;>rfl
theorem den (a0:(List Aid)) (a1:Int) (a2:Danger) (a3:Int)  : Den Tryz.prog 113 [encL 16 eAid a0,.fn 61 0 [.ep (yq a1),.ep (yr a2),.ep (yq a3)]] (.int .i64 (zgd a0 a1 a2 a3)):=by
 generalize hR:zgd a0 a1 a2 a3=r;unfold zgd at hR;refine di Tryz.func113 Tryz.ntmps113 Tryz.results113 ?_;intro c hL hc hk;obtain⟨hL0,hL1,_⟩:=hL;have hw0:a0.length<9223372036854775808:=Nat.lt_succ_of_le (yf hL0).1;have hw1:∀ v∈a0,bwAid v:=fun v hv=>yeb v ((yf hL0).2 v hv)
 have hw2:bwDanger a2:=y5 a2 hL1.2.1;clear hL0 hL1;simp only[pars,Nat.zero_add];iterate 2 refine rS ?_
 refine AWP.block ?_;generalize hz1:yh (yxl a0 a1 a2 a3) (a0.length-0) 0 ()=z1 at hR;refine AWP.range (yxl a0 a1 a2 a3) (fun i1 s1=>⟨[(0,encL 16 eAid a0),(1,.fn 61 0 [.ep (yq a1),.ep (yr a2),.ep (yq a3)]),(7,.int .i64 (a0.length:Int)),(8,.int .i64 (i1:Int))],[]⟩) (fun i1 s1=>True) (a0.length) 0 () [] hz1 ot wt sm ?_;clear hz1;intro i1 s1 hi1 hW1 hz1;refine rS ?_;refine AWP.seq ?_;refine AWP.cond rfl (fun hb => ?_) (fun hb => ?_)
 ·have hlt1:i1<a0.length:=ot
  rw[yn hlt1]at hz1;simp only[yxl]at hz1;iterate 2 refine rS ?_
  refine AWP.cond rfl (fun hb => ?_) (fun hb => ?_)
  ·simp only[hb,cond_true]at hz1
   refine rS ?_;refine AWP.ret ?_;subst hz1;dsimp only at hR;subst hR;exact es
  ·simp only[hb,cond_false]at hz1
   refine rS ?_;exact⟨_,[],hlt1,wt,hz1,sm⟩
 ·obtain rfl:i1=a0.length:=ot
  rw[yp (Nat.le_refl _)]at hz1;subst hz1;dsimp only at hR;refine AWP.exit ?_;refine yc ?_;refine rS ?_;refine AWP.ret ?_;subst hR;exact es
end N_zgd
def D_zgd : DF
 | [x0,(.fn f61_4 kf61_4 [y1,y2,y3])]=>some (.int .i64 (zgd (rdL dAid x0) (rdP ydb y1) (rdP yu y2) (rdP ydb y3)),false,[wL 16 eAid dAid x0,y1=.ep (yq (rdP ydb y1)),y2=.ep (yr (rdP yu y2)),y3=.ep (yq (rdP ydb y3)),f61_4=61,kf61_4=0])
 | _=>none
theorem ypx:OkD Tryz.prog 113 D_zgd:=by
 intro xs r z ob h ho;unfold D_zgd at h;split at h
 ·simp only[Option.some.injEq,Prod.mk.injEq]at h
  obtain⟨rfl,rfl,rfl⟩:=h;obtain⟨h0,qy1,qy2,qy3,qf61_4,qkf61_4,_⟩:=ho;exact Den.sim (N_zgd.den _ _ _ _ ) (yhb (yvh h0).1 <| yhb (by subst qf61_4 qkf61_4;rw[<- qy1, <- qy2, <- qy3];exact ynf _) <| trivial) (ypb (yvh h0).2 <| ypb (by rw[qy1,qy2,qy3];rfl) <| rfl) rfl
 ·cases h
def zrc (a0:(List Aid)) (a1:Int) (a2:Danger) (a3:Int):Bool:=
 decide (0<=(zgd a0 a1 a2 a3))
namespace N_zrc
theorem DD:DOk Tryz.prog (Go.Ab.DD [(113,dP D_zgd)]):=ya ypx.e <| yb _
theorem dn:type_of% (@D_zgd.eq_1):=by and_intros<;>intros<;>rfl
theorem den (a0:(List Aid)) (a1:Int) (a2:Danger) (a3:Int)  : Den Tryz.prog 60 [encL 16 eAid a0,.fn 61 0 [.ep (yq a1),.ep (yr a2),.ep (yq a3)]] (.bool (zrc a0 a1 a2 a3)):=by
 generalize hR:zrc a0 a1 a2 a3=r;unfold zrc at hR;refine di Tryz.func60 Tryz.ntmps60 Tryz.results60 ?_;intro c hL hc hk;obtain⟨hL0,hL1,_⟩:=hL;have hw0:a0.length<9223372036854775808:=Nat.lt_succ_of_le (yf hL0).1;have hw1:∀ v∈a0,bwAid v:=fun v hv=>yeb v ((yf hL0).2 v hv)
 have hw2:bwDanger a2:=y5 a2 hL1.2.1;clear hL0 hL1;simp only[pars,Nat.zero_add];iterate 2 refine rS ?_
 refine AWP.ret ?_;subst hR;exact es
end N_zrc
def D_zrc : DF
 | [x0,(.fn f61_4 kf61_4 [y1,y2,y3])]=>some (.bool (zrc (rdL dAid x0) (rdP ydb y1) (rdP yu y2) (rdP ydb y3)),false,[wL 16 eAid dAid x0,y1=.ep (yq (rdP ydb y1)),y2=.ep (yr (rdP yu y2)),y3=.ep (yq (rdP ydb y3)),f61_4=61,kf61_4=0])
 | _=>none
theorem yiw:OkD Tryz.prog 60 D_zrc:=by
 intro xs r z ob h ho;unfold D_zrc at h;split at h
 ·simp only[Option.some.injEq,Prod.mk.injEq]at h
  obtain⟨rfl,rfl,rfl⟩:=h;obtain⟨h0,qy1,qy2,qy3,qf61_4,qkf61_4,_⟩:=ho;exact Den.sim (N_zrc.den _ _ _ _ ) (yhb (yvh h0).1 <| yhb (by subst qf61_4 qkf61_4;rw[<- qy1, <- qy2, <- qy3];exact ynf _) <| trivial) (ypb (yvh h0).2 <| ypb (by rw[qy1,qy2,qy3];rfl) <| rfl) rfl
 ·cases h
def zwd (a0:Danger) (a1:Point):(Int×Int):=
 (bif ((!(zub a0)) || (!(zwb a1)))then(0,1)else(bif (a1.X == a0.At.X && a1.Y == a0.At.Y)then(0,6)else((zkd a0 a1),0)))
namespace N10
theorem DD:DOk Tryz.prog (Go.Ab.DD [(47,dP D_zub),(50,dP D_zwb),(51,dP D_zkd)]):=ya ygh.e <| ya ybh.e <| ya y3o.e <| yb _
theorem dn:type_of% (And.intro @D_zub.eq_1 <| And.intro @D_zwb.eq_1 <| @D_zkd.eq_1):=by and_intros<;>intros<;>rfl
theorem den (a0:Danger) (a1:Point)  : Den Tryz.prog 10 [.agg (yr a0),.agg (yx a1)] (.tup [.int .i64 ((zwd a0 a1).1),.int .i64 ((zwd a0 a1).2)]):=by
 generalize hR:zwd a0 a1=r;unfold zwd at hR;refine di Tryz.func10 Tryz.ntmps10 Tryz.results10 ?_;intro c hL hc hk;obtain⟨hL0,hL1,_⟩:=hL;have hw0:bwDanger a0:=y5 a0 hL0;clear hL0 hL1;simp only[pars,Nat.zero_add];iterate 2 refine rS ?_
 refine AWP.cond rfl (fun hb => ?_) (fun hb => ?_)
 ·replace hR:=ct hR
  refine rS ?_;refine AWP.ret ?_;subst hR;exact es
 ·replace hR:=cf hR
  refine rS ?_;refine AWP.cond rfl (fun hb => ?_) (fun hb => ?_)
  ·replace hR:=ct hR
   refine rS ?_;refine AWP.ret ?_;subst hR;exact es
  ·replace hR:=cf hR
   refine rS ?_;refine AWP.ret ?_;subst hR;exact es
end N10
def D_zwd : DF
 | [x0,x1]=>some (.tup [.int .i64 ((zwd (rdG yu x0) (rdG y7 x1)).1),.int .i64 ((zwd (rdG yu x0) (rdG y7 x1)).2)],false,[wG yr yu x0,wG yx y7 x1])
 | _=>none
theorem yay:OkD Tryz.prog 10 D_zwd:=by unfold D_zwd;exact dk N10.den
def zxb (a0:Danger) (a1:Int):((List Point)×Int):=
 (bif (!(zub a0))then([],1)else(bif (!(zjc a1))then([],2)else(bif (!(zkb [{ X:=a0.At.X,Y:=IntKind.wrap .i64 (a0.At.Y+(IntKind.wrap .i64 (a0.Radius+a1))):Point },{ X:=IntKind.wrap .i64 (a0.At.X+(IntKind.wrap .i64 (a0.Radius+a1))),Y:=a0.At.Y:Point },{ X:=a0.At.X,Y:=IntKind.wrap .i64 (a0.At.Y-(IntKind.wrap .i64 (a0.Radius+a1))):Point },{ X:=IntKind.wrap .i64 (a0.At.X-(IntKind.wrap .i64 (a0.Radius+a1))),Y:=a0.At.Y:Point }]))then([],6)else([{ X:=a0.At.X,Y:=IntKind.wrap .i64 (a0.At.Y+(IntKind.wrap .i64 (a0.Radius+a1))):Point },{ X:=IntKind.wrap .i64 (a0.At.X+(IntKind.wrap .i64 (a0.Radius+a1))),Y:=a0.At.Y:Point },{ X:=a0.At.X,Y:=IntKind.wrap .i64 (a0.At.Y-(IntKind.wrap .i64 (a0.Radius+a1))):Point },{ X:=IntKind.wrap .i64 (a0.At.X-(IntKind.wrap .i64 (a0.Radius+a1))),Y:=a0.At.Y:Point }],0))))
namespace N9
theorem DD:DOk Tryz.prog (Go.Ab.DD [(47,dP D_zub),(48,dP D_zjc),(49,dP D_zkb)]):=ya ygh.e <| ya ycl.e <| ya y9k.e <| yb _
theorem dn:type_of% (And.intro @D_zub.eq_1 <| And.intro @D_zjc.eq_1 <| @D_zkb.eq_1):=by and_intros<;>intros<;>rfl
theorem lx {p:Prop} (h:p:=by(exact lxx);first|done|fail):p:=h
theorem den (a0:Danger) (a1:Int)  : Den Tryz.prog 9 [.agg (yr a0),.int .i64 a1] (.tup [ownL 25 2 yx ((zxb a0 a1).1),.int .i64 ((zxb a0 a1).2)]):=by
 generalize hR:zxb a0 a1=r;unfold zxb at hR;refine di Tryz.func9 Tryz.ntmps9 Tryz.results9 ?_;intro c hL hc hk;obtain⟨hL0,hL1,_⟩:=hL;have hw0:bwDanger a0:=y5 a0 hL0;clear hL0 hL1;simp only[pars,Nat.zero_add];iterate 2 refine rS ?_
 refine AWP.cond rfl (fun hb => ?_) (fun hb => ?_)
 ·replace hR:=ct hR
  refine rS ?_;refine AWP.ret ?_;subst hR;exact es
 ·replace hR:=cf hR
  refine rS ?_;refine AWP.cond rfl (fun hb => ?_) (fun hb => ?_)
  ·replace hR:=ct hR
   refine rS ?_;refine AWP.ret ?_;subst hR;exact es
  ·replace hR:=cf hR
   iterate 3 refine rS ?_
   refine AWP.cond rfl (fun hb => ?_) (fun hb => ?_)
   ·replace hR:=ct hR
    refine rS ?_;refine AWP.ret ?_;subst hR;exact es
   ·replace hR:=cf hR
    refine rS ?_;refine AWP.ret ?_;subst hR;exact es
end N9
def D_zxb : DF
 | [x0,x1]=>some (.tup [ownL 25 2 yx ((zxb (rdG yu x0) (rdI x1)).1),.int .i64 ((zxb (rdG yu x0) (rdI x1)).2)],false,[wG yr yu x0,wI .i64 x1])
 | _=>none
theorem ypw:OkD Tryz.prog 9 D_zxb:=by unfold D_zxb;exact dk N9.den
end Go.Ab
