/- A part of a proof: walks of functions and lemmas of our own. No conditions. -/
import Derived.Test.YtopoomikfjodkaaGreatDoorRAw
import Derived.Test.YtopoomikfjodkaaGreatDoorRBd
import Derived.Test.YtopoomikfjodkaaGreatDoorRAq
import Derived.Test.YtopoomikfjodkaaGreatDoorRBk
import Derived.Test.YtopoomikfjodkaaGreatDoorRBo
import Derived.Test.YtopoomikfjodkaaGreatDoorRBp
import Derived.Test.YtopoomikfjodkaaGreatDoorRBb
import Derived.Test.YtopoomikfjodkaaGreatDoorRBh
import Derived.Test.YtopoomikfjodkaaGreatDoorRBc
import Derived.Test.YtopoomikfjodkaaGreatDoorRBe
import Derived.Test.YtopoomikfjodkaaGreatDoorRBj
import Derived.Test.YtopoomikfjodkaaGreatDoorRAl
import Derived.Test.YtopoomikfjodkaaGreatDoorRAv
import Derived.Test.YtopoomikfjodkaaGreatDoorRAy
import Derived.Test.YtopoomikfjodkaaGreatDoorRAu
import Derived.Test.YtopoomikfjodkaaGreatDoorRBl
import Derived.Test.YtopoomikfjodkaaGreatDoorRAi
import Derived.Test.YtopoomikfjodkaaGreatDoorRBn
set_option linter.unusedSectionVars false
set_option linter.unusedVariables false
set_option linter.unusedSimpArgs false
set_option maxHeartbeats 1000000

namespace Go.Ab
open Go Go.Proofs
theorem yr3 {n:Notice} (h:zse n=true):1≤n.Number∧n.Number≤9999∧0≤n.Day∧n.Day≤99999 ∧
  (((n.Kind=1∨n.Kind=2)∧zcc n.Aid=true∧n.Target=0)∨((n.Kind=3∨n.Kind=4)∧zxg n.Aid default=true∧1≤n.Target∧n.Target≤9999)):=by
 unfold zse at h
 cases hc:((!(zg n.Number 1 9999)) || (!(zyg n.Day)))with
 | true=>rw[hc]at h;cases h
 | false=>
  rw[hc,cond_false]at h
  simp only[Bool.or_eq_false_iff,Bool.not_eq_false',zyg,zg,Bool.and_eq_true,decide_eq_true_eq]at hc
  refine⟨hc.1.1,hc.1.2,hc.2.1,hc.2.2,?_⟩
  have e:({ Number:=0,Name:=[],At:={ X:=0,Y:=0:Point },Height:=0,Mark:={ Kind:=0,Colors:=[],Shape:=[],Topmark:=[]:Mark },Light:={ Kind:=0,Group:=[],Letter:=[],Colors:=[],Period:=0:Character },Sectors:=[],Intensity:=0:Aid })=default:=rfl
  rw[e]at h
  by_cases h1:n.Kind=1
  ·rw[show(n.Kind == 1)=true by simp[h1],cond_true,Bool.and_eq_true,beq_iff_eq]at h
   exact .inl ⟨.inl h1,h.1,h.2⟩
  rw[show(n.Kind == 1)=false by simp[h1],cond_false]at h
  by_cases h2:n.Kind=2
  ·rw[show(n.Kind == 2)=true by simp[h2],cond_true,Bool.and_eq_true,beq_iff_eq]at h
   exact .inl ⟨.inr h2,h.1,h.2⟩
  rw[show(n.Kind == 2)=false by simp[h2],cond_false]at h
  by_cases h3:n.Kind=3
  ·rw[show(n.Kind == 3)=true by simp[h3],cond_true,Bool.and_eq_true]at h
   simp only[zg,Bool.and_eq_true,decide_eq_true_eq]at h
   exact .inr ⟨.inl h3,h.1,h.2⟩
  rw[show(n.Kind == 3)=false by simp[h3],cond_false]at h
  by_cases h4:n.Kind=4
  ·rw[show(n.Kind == 4)=true by simp[h4],cond_true,Bool.and_eq_true]at h
   simp only[zg,Bool.and_eq_true,decide_eq_true_eq]at h
   exact .inr ⟨.inr h4,h.1,h.2⟩
  rw[show(n.Kind == 4)=false by simp[h4],cond_false]at h
  cases h
theorem y51 (k:Int):(zfc k).length≤100:=yhl _ _ (by decide)
theorem y43 {k:Int} (h:1≤k∧k≤4):zfc k=zqe.getD k.toNat default:=yqy _ _ (by omega) (by show k<5;omega)
theorem yu5 {n:Notice} (hb:bdNotice n) (h:(!znh n)=false):zse n=true:=by
 rw[← yjg n ⟨Nat.lt_of_lt_of_le hb.2.2.1.2.2 (by decide),Nat.lt_of_lt_of_le hb.2.2.2.1 (by decide)⟩];simpa using h
end Go.Ab

namespace Go.Ab
open Go Go.Proofs
def zfg (a0:Notice):(List UInt8):=
 (bif (!(znh a0))then[]else(bif (zmd a0)then(zpb [(zl a0.Number),(zv a0.Day),(zfc a0.Kind),(zsc a0.Aid)] [32])else(zpb [(zl a0.Number),(zv a0.Day),(zfc a0.Kind),(zl a0.Target)] [32])))
namespace N46
theorem DD:DOk Tryz.prog (Go.Ab.DD [(107,dP D_zl),(125,dP D_znh),(126,dP D_zmd),(127,dP D_zv),(128,dP D_zfc),(32,dP D_zsc),(83,dP D_zpb)]):=ya yxe.e <| ya yh5.e <| ya yiq.e <| ya y7u.e <| ya ynw.e <| ya y3x.e <| ya yah.e <| yc _
theorem dn:type_of% (And.intro @D_zl.eq_1 <| And.intro @D_znh.eq_1 <| And.intro @D_zmd.eq_1 <| And.intro @D_zv.eq_1 <| And.intro @D_zfc.eq_1 <| And.intro @D_zsc.eq_1 <| @D_zpb.eq_1):=by and_intros<;>intros<;>rfl
theorem gr {p:Prop} (h:p:=by(grind [ycc,yzs]);first|done|fail):p:=h
theorem o0 {p:Prop} (h:p:=by(first|(have h9:=hn9 (by assumption);(repeat' with_reducible apply And.intro)<;>(first|omega|assumption|(simp only[List.length_append,List.length_cons,List.length_nil,List.length_singleton];omega)|(refine Nat.le_trans (ynf _ _) ?_;simp only[jl,List.length_cons,List.length_nil];omega))));first|done|fail):p:=h
theorem lx {p:Prop} (h:p:=by(exact lxx);first|done|fail):p:=h
set_option maxHeartbeats 1000000 in
set_option maxRecDepth 20000 in
theorem den (a0:Notice) (hb0:bdNotice a0):Den Tryz.prog 46 [.agg (ygc a0)] (.str (zfg a0)):=by
 generalize hR:zfg a0=r
 unfold zfg at hR
 refine di Tryz.func46 Tryz.ntmps46 Tryz.results46 ?_
 intro c hL hc hk
 obtain⟨hL0,_⟩:=hL
 have hw0:bwNotice a0:=ytc a0 hL0
 clear hL0
 simp only[pars,Nat.zero_add]
 have hn9:=fun h=>yr3 (yu5 hb0 h)
 have l3:=y51 a0.Kind
 have l4:=y1u a0.Aid hb0
 have l5:=yzs a0.Day
 have l1:=ycc a0.Number
 have l2:=ycc a0.Target
 iterate 2 refine rS ?_
 refine AWP.cond rfl (fun hb => ?_) (fun hb => ?_)
 ·replace hR:=ct hR
  refine rS ?_
  refine AWP.ret ?_
  subst hR
  exact es
 ·replace hR:=cf hR
  iterate 2 refine rS ?_
  refine AWP.cond rfl (fun hb => ?_) (fun hb => ?_)
  ·replace hR:=ct hR
   refine rS ?_
   refine rD 10 ?_
   refine AWP.ret ?_
   subst hR
   exact es
  ·replace hR:=cf hR
   refine rD 10 ?_
   refine AWP.ret ?_
   subst hR
   exact es
end N46
def D_zfg : DF
 | [x0]=>some (.str (zfg (rdG ynb x0)),false,[wG ygc ynb x0,bdNotice (rdG ynb x0)])
 | _=>none
theorem yq5:OkD Tryz.prog 46 D_zfg:=by unfold D_zfg;exact dk N46.den
end Go.Ab

namespace Go.Ab
open Go Go.Proofs
def y9p (a0:(List UInt8)) (s1:Int×Int):Except (Sum ((Notice×Bool)) (Int×Int)) (Int×Int):=
 (bif decide (s1.1≤4)then(bif ((zfc s1.1) == ((zbb a0 [32] 4).getD 2 default))then .ok (IntKind.wrap .i64 (s1.1+1),s1.1)else .ok (IntKind.wrap .i64 (s1.1+1),s1.2))else .error (.inr (s1.1,s1.2)))
def zt (a0:(List UInt8)):(Notice×Bool):=
 (bif (((zbb a0 [32] 4).length:Int) != 4)then({ Number:=0,Day:=0,Kind:=0,Target:=0,Aid:={ Number:=0,Name:=[],At:={ X:=0,Y:=0:Point },Height:=0,Mark:={ Kind:=0,Colors:=[],Shape:=[],Topmark:=[]:Mark },Light:={ Kind:=0,Group:=[],Letter:=[],Colors:=[],Period:=0:Character },Sectors:=[],Intensity:=0:Aid }:Notice },false)else(match y3 (y9p a0) (((5-(1:Int)).toNat)+1) (1,0)with|.error (.inl e)=>e|.error (.inr s1)=>(bif (zmd ({ Number:=(zj ((zbb a0 [32] 4).getD 0 default)).1,Day:=(zmc ((zbb a0 [32] 4).getD 1 default)).1,Kind:=s1.2,Target:=0,Aid:={ Number:=0,Name:=[],At:={ X:=0,Y:=0:Point },Height:=0,Mark:={ Kind:=0,Colors:=[],Shape:=[],Topmark:=[]:Mark },Light:={ Kind:=0,Group:=[],Letter:=[],Colors:=[],Period:=0:Character },Sectors:=[],Intensity:=0:Aid }:Notice }))then(bif ((((!((zj ((zbb a0 [32] 4).getD 0 default)).2)) || (!((zmc ((zbb a0 [32] 4).getD 1 default)).2))) || (!((zqd ((zbb a0 [32] 4).getD 3 default)).2))) || ((zfg ({ Number:=(zj ((zbb a0 [32] 4).getD 0 default)).1,Day:=(zmc ((zbb a0 [32] 4).getD 1 default)).1,Kind:=s1.2,Target:=0,Aid:=(zqd ((zbb a0 [32] 4).getD 3 default)).1:Notice })) != a0))then({ Number:=0,Day:=0,Kind:=0,Target:=0,Aid:={ Number:=0,Name:=[],At:={ X:=0,Y:=0:Point },Height:=0,Mark:={ Kind:=0,Colors:=[],Shape:=[],Topmark:=[]:Mark },Light:={ Kind:=0,Group:=[],Letter:=[],Colors:=[],Period:=0:Character },Sectors:=[],Intensity:=0:Aid }:Notice },false)else({ Number:=(zj ((zbb a0 [32] 4).getD 0 default)).1,Day:=(zmc ((zbb a0 [32] 4).getD 1 default)).1,Kind:=s1.2,Target:=0,Aid:=(zqd ((zbb a0 [32] 4).getD 3 default)).1:Notice },true))else(bif ((((!((zj ((zbb a0 [32] 4).getD 0 default)).2)) || (!((zmc ((zbb a0 [32] 4).getD 1 default)).2))) || (!((zj ((zbb a0 [32] 4).getD 3 default)).2))) || ((zfg ({ Number:=(zj ((zbb a0 [32] 4).getD 0 default)).1,Day:=(zmc ((zbb a0 [32] 4).getD 1 default)).1,Kind:=s1.2,Target:=(zj ((zbb a0 [32] 4).getD 3 default)).1,Aid:={ Number:=0,Name:=[],At:={ X:=0,Y:=0:Point },Height:=0,Mark:={ Kind:=0,Colors:=[],Shape:=[],Topmark:=[]:Mark },Light:={ Kind:=0,Group:=[],Letter:=[],Colors:=[],Period:=0:Character },Sectors:=[],Intensity:=0:Aid }:Notice })) != a0))then({ Number:=0,Day:=0,Kind:=0,Target:=0,Aid:={ Number:=0,Name:=[],At:={ X:=0,Y:=0:Point },Height:=0,Mark:={ Kind:=0,Colors:=[],Shape:=[],Topmark:=[]:Mark },Light:={ Kind:=0,Group:=[],Letter:=[],Colors:=[],Period:=0:Character },Sectors:=[],Intensity:=0:Aid }:Notice },false)else({ Number:=(zj ((zbb a0 [32] 4).getD 0 default)).1,Day:=(zmc ((zbb a0 [32] 4).getD 1 default)).1,Kind:=s1.2,Target:=(zj ((zbb a0 [32] 4).getD 3 default)).1,Aid:={ Number:=0,Name:=[],At:={ X:=0,Y:=0:Point },Height:=0,Mark:={ Kind:=0,Colors:=[],Shape:=[],Topmark:=[]:Mark },Light:={ Kind:=0,Group:=[],Letter:=[],Colors:=[],Period:=0:Character },Sectors:=[],Intensity:=0:Aid }:Notice },true)))|.ok _=>default))
namespace N73
theorem DD:DOk Tryz.prog (Go.Ab.DD [(126,dP D_zmd),(128,dP D_zfc),(136,dP D_zj),(163,dP D_zbb),(164,dP D_zmc),(46,dP D_zfg),(54,dP D_zqd)]):=ya yiq.e <| ya ynw.e <| ya yxh.e <| ya yj4.e <| ya y0y.e <| ya yq5.e <| ya ycw.e <| yc _
theorem dn:type_of% (And.intro @D_zmd.eq_1 <| And.intro @D_zfc.eq_1 <| And.intro @D_zj.eq_1 <| And.intro @D_zbb.eq_1 <| And.intro @D_zmc.eq_1 <| And.intro @D_zfg.eq_1 <| @D_zqd.eq_1):=by and_intros<;>intros<;>rfl
set_option maxHeartbeats 1000000 in
set_option maxRecDepth 20000 in
theorem den (a0:(List UInt8)) (hb0:a0.length<1099511627776) (hp0:a0.length≤1048576):Den Tryz.prog 73 [.str a0] (.tup [.agg (y8c ((zt a0).1)),.bool ((zt a0).2)]):=by
 generalize hR:zt a0=r
 unfold zt at hR
 refine di Tryz.func73 Tryz.ntmps73 Tryz.results73 ?_
 intro c hL hc hk
 obtain⟨hL0,_⟩:=hL
 have hw0:a0.length<9223372036854775808:=Nat.lt_succ_of_le hL0
 clear hL0
 simp only[pars,Nat.zero_add]
 have hc9:=yt0 a0 hp0
 have hc1:=hc9.1
 have hc3:=hc9.2
 have hca:=hc1 0
 have hcb:=hc1 1
 have hcd:=hc1 2
 have hce:=hc1 3
 have hra:=yrz ((zbb a0 [32] 4).getD 3 default) hce
 iterate 3 refine rS ?_
 refine AWP.cond rfl (fun hb => ?_) (fun hb => ?_)
 ·replace hR:=ct hR
  refine rS ?_
  refine AWP.ret ?_
  subst hR
  exact es
 ·replace hR:=cf hR
  iterate 4 refine rS ?_
  refine AWP.block ?_
  generalize hz1:y3 (y9p a0) (((5-(1:Int)).toNat)+1) (1,0)=z1 at hR
  refine AWP.whileW (y9p a0) (fun s1=>⟨[(0,.str a0),(2,.ptr 0 0),(4,.ref 1 1 0 ((zbb a0 [32] 4).length)),(6,.bool ((zj ((zbb a0 [32] 4).getD 0 default)).2)),(8,.bool ((zmc ((zbb a0 [32] 4).getD 1 default)).2)),(9,.ptr 2 0),(10,.int .i64 s1.1)],[.box [.int .i64 0,.int .i64 0,.int .i64 0,.int .i64 0,.int .i64 0,.str [],.int .i64 0,.int .i64 0,.int .i64 0,.int .i64 0,.str [],.str [],.str [],.int .i64 0,.nils,.str [],.str [],.int .i64 0,.nils,.int .i64 0],.arr 9 1 (zbb a0 [32] 4).length (fun j=>eS ((zbb a0 [32] 4).getD j default)),.box [.int .i64 ((zj ((zbb a0 [32] 4).getD 0 default)).1),.int .i64 ((zmc ((zbb a0 [32] 4).getD 1 default)).1),.int .i64 s1.2,.int .i64 0,.int .i64 0,.str [],.int .i64 0,.int .i64 0,.int .i64 0,.int .i64 0,.str [],.str [],.str [],.int .i64 0,.nils,.str [],.str [],.int .i64 0,.nils,.int .i64 0]]⟩) (fun s1=>1≤s1.1∧s1.1≤5) (fun s1=>(5-s1.1).toNat) (((5-(1:Int)).toNat)+1) (1,0) [0,1,2] hz1 m0 wt sm ?_
  clear hz1
  intro s1 k1 hW1 hm1 hz1
  simp only[y9p]at hz1
  refine rS ?_
  refine AWP.cond rfl (fun hb => ?_) (fun hb => ?_)
  ·simp only[hb,cond_true]at hz1
   refine rD 5 ?_
   refine AWP.cond rfl (fun hb => ?_) (fun hb => ?_)
   ·simp only[hb,cond_true]at hz1
    iterate 2 refine rS ?_
    exact⟨_,[0,1,2],ms,wt,hz1,sm⟩
   ·simp only[hb,cond_false]at hz1
    refine rS ?_
    exact⟨_,[0,1,2],ms,wt,hz1,sm⟩
  ·simp only[hb,cond_false]at hz1
   refine AWP.exit ?_
   refine yb ?_
   subst hz1;dsimp only at hR
   iterate 2 refine rS ?_
   refine AWP.cond rfl (fun hb => ?_) (fun hb => ?_)
   ·replace hR:=ct hR
    iterate 2 refine rS ?_
    refine AWP.cond rfl (fun hb => ?_) (fun hb => ?_)
    ·replace hR:=ct hR
     refine rS ?_
     refine AWP.ret ?_
     subst hR
     exact es
    ·replace hR:=cf hR
     refine rS ?_
     refine AWP.ret ?_
     subst hR
     exact es
   ·replace hR:=cf hR
    iterate 2 refine rS ?_
    refine AWP.cond rfl (fun hb => ?_) (fun hb => ?_)
    ·replace hR:=ct hR
     refine rS ?_
     refine AWP.ret ?_
     subst hR
     exact es
    ·replace hR:=cf hR
     refine rS ?_
     refine AWP.ret ?_
     subst hR
     exact es
end N73
def D_zt : DF
 | [x0]=>some (.tup [.agg (y8c ((zt (rdS x0)).1)),.bool ((zt (rdS x0)).2)],false,[wS x0,(rdS x0).length<1099511627776,(rdS x0).length≤1048576])
 | _=>none
theorem yy9:OkD Tryz.prog 73 D_zt:=by unfold D_zt;exact dk N73.den
end Go.Ab

namespace Go.Ab
open Go Go.Proofs
def yam (a0:(List UInt8)) (i1:Nat) (s1:Int):Except ((Notice×Bool)) (Int):=
 (bif (((zqe ).getD i1 default) == (((zq a0 3).1).getD 2 default))then .ok (i1:Int)else .ok s1)
def zrd (a0:(List UInt8)):(Notice×Bool):=
 (bif ((((zq a0 3).1).length:Int) != 3)then({ Number:=0,Day:=0,Kind:=0,Target:=0,Aid:={ Number:=0,Name:=[],At:={ X:=0,Y:=0:Point },Height:=0,Mark:={ Kind:=0,Colors:=[],Shape:=[],Topmark:=[]:Mark },Light:={ Kind:=0,Group:=[],Letter:=[],Colors:=[],Period:=0:Character },Sectors:=[],Intensity:=0:Aid }:Notice },false)else(match ye (yam a0) (((zqe ).length)-1) 1 0 with|.error e=>e|.ok s1=>(bif ((s1 == 3) || (s1 == 4))then(bif ((((!((zf (((zq a0 3).1).getD 0 default)).2)) || (!((znb (((zq a0 3).1).getD 1 default)).2))) || (!((zf ((zq a0 3).2)).2))) || (!(zse ({ Number:=(zf (((zq a0 3).1).getD 0 default)).1,Day:=(znb (((zq a0 3).1).getD 1 default)).1,Kind:=s1,Target:=(zf ((zq a0 3).2)).1,Aid:={ Number:=0,Name:=[],At:={ X:=0,Y:=0:Point },Height:=0,Mark:={ Kind:=0,Colors:=[],Shape:=[],Topmark:=[]:Mark },Light:={ Kind:=0,Group:=[],Letter:=[],Colors:=[],Period:=0:Character },Sectors:=[],Intensity:=0:Aid }:Notice }))))then({ Number:=0,Day:=0,Kind:=0,Target:=0,Aid:={ Number:=0,Name:=[],At:={ X:=0,Y:=0:Point },Height:=0,Mark:={ Kind:=0,Colors:=[],Shape:=[],Topmark:=[]:Mark },Light:={ Kind:=0,Group:=[],Letter:=[],Colors:=[],Period:=0:Character },Sectors:=[],Intensity:=0:Aid }:Notice },false)else({ Number:=(zf (((zq a0 3).1).getD 0 default)).1,Day:=(znb (((zq a0 3).1).getD 1 default)).1,Kind:=s1,Target:=(zf ((zq a0 3).2)).1,Aid:={ Number:=0,Name:=[],At:={ X:=0,Y:=0:Point },Height:=0,Mark:={ Kind:=0,Colors:=[],Shape:=[],Topmark:=[]:Mark },Light:={ Kind:=0,Group:=[],Letter:=[],Colors:=[],Period:=0:Character },Sectors:=[],Intensity:=0:Aid }:Notice },true))else(bif ((((!((zf (((zq a0 3).1).getD 0 default)).2)) || (!((znb (((zq a0 3).1).getD 1 default)).2))) || (!((ztb ((zq a0 3).2)).2))) || (!(zse ({ Number:=(zf (((zq a0 3).1).getD 0 default)).1,Day:=(znb (((zq a0 3).1).getD 1 default)).1,Kind:=s1,Target:=0,Aid:=(ztb ((zq a0 3).2)).1:Notice }))))then({ Number:=0,Day:=0,Kind:=0,Target:=0,Aid:={ Number:=0,Name:=[],At:={ X:=0,Y:=0:Point },Height:=0,Mark:={ Kind:=0,Colors:=[],Shape:=[],Topmark:=[]:Mark },Light:={ Kind:=0,Group:=[],Letter:=[],Colors:=[],Period:=0:Character },Sectors:=[],Intensity:=0:Aid }:Notice },false)else({ Number:=(zf (((zq a0 3).1).getD 0 default)).1,Day:=(znb (((zq a0 3).1).getD 1 default)).1,Kind:=s1,Target:=0,Aid:=(ztb ((zq a0 3).2)).1:Notice },true)))))
namespace N162
theorem DD:DOk Tryz.prog (Go.Ab.DD [(123,dP D_zse),(134,dP D_ztb),(168,dP D_zf),(169,dP D_znb),(226,dP D_zqe),(251,dP D_zq)]):=ya yl8.e <| ya yux.e <| ya ynj.e <| ya yhy.e <| ya y26.e <| ya yobb.e <| yc _
theorem dn:type_of% (And.intro @D_zse.eq_1 <| And.intro @D_ztb.eq_1 <| And.intro @D_zf.eq_1 <| And.intro @D_znb.eq_1 <| And.intro @D_zqe.eq_1 <| @D_zq.eq_1):=by and_intros<;>intros<;>rfl
theorem o2 {p:Prop} (h:p:=by(first|(rw[IntKind.wrap_i64];omega));first|done|fail):p:=h
set_option maxHeartbeats 1000000 in
set_option maxRecDepth 20000 in
theorem den (a0:(List UInt8)) (hb0:a0.length<1099511627776) (hp0:a0.length≤1048576):Den Tryz.prog 162 [.str a0] (.tup [.agg (y8c ((zrd a0).1)),.bool ((zrd a0).2)]):=by
 generalize hR:zrd a0=r
 unfold zrd at hR
 refine di Tryz.func162 Tryz.ntmps162 Tryz.results162 ?_
 intro c hL hc hk
 obtain⟨hL0,_⟩:=hL
 have hw0:a0.length<9223372036854775808:=Nat.lt_succ_of_le hL0
 clear hL0
 simp only[pars,Nat.zero_add]
 have hc9:=yo0 a0 hp0
 have hc1:=hc9.1
 have hc2:=hc9.2.1
 have hc3:=hc9.2.2
 have hca:=hc1 0
 have hcb:=hc1 1
 have hcd:=hc1 2
 have hra:=y0g (zq a0 3).2 hc2
 have hn2:zqe.length=5:=rfl
 iterate 3 refine rS ?_
 refine AWP.cond rfl (fun hb => ?_) (fun hb => ?_)
 ·replace hR:=ct hR
  refine rS ?_
  refine AWP.ret ?_
  subst hR
  exact es
 ·replace hR:=cf hR
  iterate 5 refine rS ?_
  refine AWP.block ?_
  generalize hz1:ye (yam a0) (((zqe ).length)-1) 1 0=z1 at hR
  refine AWP.range (yam a0) (fun i1 s1=>⟨[(2,.ptr 0 0),(4,.ref 1 1 0 (((zq a0 3).1).length)),(5,.str ((zq a0 3).2)),(7,.bool ((zf (((zq a0 3).1).getD 0 default)).2)),(9,.bool ((znb (((zq a0 3).1).getD 1 default)).2)),(10,.ptr 2 0),(11,.ref 3 1 0 ((zqe ).length)),(12,.int .i64 (i1:Int))],[.box [.int .i64 0,.int .i64 0,.int .i64 0,.int .i64 0,.int .i64 0,.str [],.int .i64 0,.int .i64 0,.int .i64 0,.int .i64 0,.str [],.str [],.str [],.int .i64 0,.nils,.str [],.str [],.int .i64 0,.nils,.int .i64 0],.arr 9 1 ((zq a0 3).1).length (fun j=>eS (((zq a0 3).1).getD j default)),.box [.int .i64 ((zf (((zq a0 3).1).getD 0 default)).1),.int .i64 ((znb (((zq a0 3).1).getD 1 default)).1),.int .i64 s1,.int .i64 0,.int .i64 0,.str [],.int .i64 0,.int .i64 0,.int .i64 0,.int .i64 0,.str [],.str [],.str [],.int .i64 0,.nils,.str [],.str [],.int .i64 0,.nils,.int .i64 0],.arr 9 1 (zqe ).length (fun j=>eS ((zqe ).getD j default))]⟩) (fun i1 s1=>1≤i1) (((zqe ).length)) 1 0 [0,1,2,3] hz1 ot wt sm ?_
  clear hz1
  intro i1 s1 hi1 hW1 hz1
  refine rS ?_
  refine AWP.cond rfl (fun hb => ?_) (fun hb => ?_)
  ·have hlt1:i1<((zqe ).length):=ot
   rw[yj hlt1]at hz1;simp only[yam]at hz1
   refine rD 7 ?_
   refine AWP.cond rfl (fun hb => ?_) (fun hb => ?_)
   ·simp only[hb,cond_true]at hz1
    iterate 2 refine rS ?_
    exact⟨_,[0,1,2,3],hlt1,wt,hz1,sm⟩
   ·simp only[hb,cond_false]at hz1
    refine rS ?_
    exact⟨_,[0,1,2,3],hlt1,wt,hz1,sm⟩
  ·obtain rfl:i1=((zqe ).length):=ot
   rw[yi (Nat.le_refl _)]at hz1;subst hz1;dsimp only at hR
   refine AWP.exit ?_;refine yb ?_
   iterate 2 refine rS ?_
   refine AWP.cond rfl (fun hb => ?_) (fun hb => ?_)
   ·replace hR:=ct hR
    iterate 4 refine rS ?_
    refine AWP.cond rfl (fun hb => ?_) (fun hb => ?_)
    ·replace hR:=ct hR
     refine rS ?_
     refine AWP.ret ?_
     subst hR
     exact es
    ·replace hR:=cf hR
     refine rS ?_
     refine AWP.ret ?_
     subst hR
     exact es
   ·replace hR:=cf hR
    iterate 4 refine rS ?_
    refine AWP.cond rfl (fun hb => ?_) (fun hb => ?_)
    ·replace hR:=ct hR
     refine rS ?_
     refine AWP.ret ?_
     subst hR
     exact es
    ·replace hR:=cf hR
     refine rS ?_
     refine AWP.ret ?_
     subst hR
     exact es
end N162
def D_zrd : DF
 | [x0]=>some (.tup [.agg (y8c ((zrd (rdS x0)).1)),.bool ((zrd (rdS x0)).2)],false,[wS x0,(rdS x0).length<1099511627776,(rdS x0).length≤1048576])
 | _=>none
theorem yx6:OkD Tryz.prog 162 D_zrd:=by unfold D_zrd;exact dk N162.den
end Go.Ab

namespace Go.Ab
open Go Go.Proofs
theorem ypz (s:List UInt8):(zqd s).2=true→zsc (zqd s).1=s:=by
 have key:∀ (c:Bool) (a z:Aid),(bif (c || (zsc a != s))then(z,false)else(a,true)).2=true→zsc (bif (c || (zsc a != s))then(z,false)else(a,true)).1=s:=fun c a z h=>by
  cases hc:(c || (zsc a != s))with
  | true=>rw[hc]at h;cases h
  | false=>
   rw[Bool.or_eq_false_iff]at hc
   show zsc a=s
   simpa using hc.2
 unfold zqd
 cases(((zb s [47]).length:Int) != 8)with
 | true=>intro h;cases h
 | false=>
  rw[cond_false]
  cases(((zb s [47]).getD 5 default) == [45])with
  | true=>rw[cond_true];exact key _ _ _
  | false=>rw[cond_false];exact key _ _ _
def ytk (w:List UInt8):Int:=bif zfc 4 == w then 4 else bif zfc 3 == w then 3 else bif zfc 2 == w then 2 else bif zfc 1 == w then 1 else 0
theorem yvv (w:List UInt8):((ytk w=1∨ytk w=2∨ytk w=3∨ytk w=4)∧zfc (ytk w)=w)∨ytk w=0:=by
 unfold ytk
 cases h4:(zfc 4 == w)with
 | true=>left;rw[cond_true];exact⟨by omega,by simpa using h4⟩
 | false=>
  rw[cond_false]
  cases h3:(zfc 3 == w)with
  | true=>left;rw[cond_true];exact⟨by omega,by simpa using h3⟩
  | false=>
   rw[cond_false]
   cases h2:(zfc 2 == w)with
   | true=>left;rw[cond_true];exact⟨by omega,by simpa using h2⟩
   | false=>
    rw[cond_false]
    cases h1:(zfc 1 == w)with
    | true=>left;rw[cond_true];exact⟨by omega,by simpa using h1⟩
    | false=>right;rfl
def setK (w:List UInt8) (k n:Int):Int:=bif zfc k == w then k else n
theorem y2w (w:List UInt8):setK w 4 (setK w 3 (setK w 2 (setK w 1 0)))=ytk w:=by
 unfold setK ytk
 cases(zfc 4 == w)<;>cases(zfc 3 == w)<;>cases(zfc 2 == w)<;>cases(zfc 1 == w)<;>rfl
theorem yldb (s:List UInt8):y3 (y9p s) (((5-(1:Int)).toNat)+1) (1,0)=.error (.inr (5,ytk ((zbb s [32] 4).getD 2 default))):=by
 have hb:∀ (k m:Int),1≤k→k≤4→y9p s (k,m)=.ok (k+1,setK ((zbb s [32] 4).getD 2 default) k m):=fun k m h1 h2=>by
  unfold y9p setK
  simp only
  have hw:IntKind.wrap .i64 (k+1)=k+1:=by rw[IntKind.wrap_i64];omega
  rw[decide_eq_true (show k≤4 by omega),cond_true,hw]
  cases(zfc k == (zbb s [32] 4).getD 2 default)<;>rfl
 have h5:∀ m:Int,y9p s (5,m)=.error (.inr (5,m)):=fun m=>by
  unfold y9p
  rfl
 rw[← y2w]
 exact(y7e (k:=4) (hb 1 0 (by omega) (by omega))).trans <| (y7e (k:=3) (hb 2 _ (by omega) (by omega))).trans <| (y7e (k:=2) (hb 3 _ (by omega) (by omega))).trans <| (y7e (k:=1) (hb 4 _ (by omega) (by omega))).trans <| yan (k:=0) (h5 _)
theorem ydi {ρ σ:Type} {b:Nat→σ→Except ρ σ} {i k:Nat} {s t:σ} (h:b i s=.ok t):ye b (k+1) i s=ye b k (i+1) t:=by
 simp only[ye,h]
theorem y5cb (s:List UInt8):ye (yam s) (((zqe ).length)-1) 1 0=.ok (ytk ((zq s 3).1.getD 2 default)):=by
 have hb:∀ (k:Nat) (m:Int),1≤k→k≤4→yam s k m=.ok (setK ((zq s 3).1.getD 2 default) k m):=fun k m h1 h2=>by
  unfold yam setK
  rw[y43 (k:=(k:Int)) (by omega),Int.toNat_natCast]
  cases((zqe).getD k default == (zq s 3).1.getD 2 default)<;>rfl
 rw[← y2w]
 exact(ydi (k:=3) (hb 1 0 (by omega) (by omega))).trans <| (ydi (k:=2) (hb 2 _ (by omega) (by omega))).trans <| (ydi (k:=1) (hb 3 _ (by omega) (by omega))).trans <| (ydi (k:=0) (hb 4 _ (by omega) (by omega))).trans rfl
theorem ycz {n:Notice} (h:n.Kind=0):zse n=false:=by
 cases e:zse n with
 | false=>rfl
 | true=>
  have:=(yr3 e).2.2.2.2
  omega
theorem yxo {n:Notice} {s:List UInt8} (hA:aidL n.Aid) (h:zse n=false) (hs:s≠[]):(zfg n != s)=true:=by
 have e:zfg n=[]:=by
  unfold zfg
  rw[yjg n hA,h]
  rfl
 rw[e,bne_iff_ne]
 exact fun e=>hs e.symm
theorem yrv {s a b d r : List UInt8} (hs : s = a ++ 32 :: (b ++ 32 :: (d ++ 32 :: r))) (n : Notice) (hA : aidL n.Aid) (h0 : zl n.Number = a) (h1 : zv n.Day = b) (h2 : zfc n.Kind = d)
  (h3:(bif zmd n then zsc n.Aid else zl n.Target)=r):(zfg n != s) = !(zse n):=by
 cases h:zse n with
 | false=>exact yxo hA h (by rw[hs];simp)
 | true=>
  rw[Bool.not_true,bne_eq_false_iff_eq,hs]
  unfold zfg
  rw[yjg n hA,h]
  have e:∀ a b c d:List UInt8,zpb [a,b,c,d] [32]=a++([32]++(b++([32]++(c++([32]++d))))):=fun a b c d=>y29 a b c d [32]
  simp only[Bool.not_true,cond_false]
  cases hh:zmd n with
  | true=>rw[hh,cond_true]at h3;rw[cond_true,e,h0,h1,h2,h3];rfl
  | false=>rw[hh,cond_false]at h3;rw[cond_false,e,h0,h1,h2,h3];rfl
theorem yjab:aidL zAid:=⟨by decide,by decide⟩
theorem ynr (s:List UInt8) (hs:s.length≤1048576):zt s=zrd s:=by
 unfold zt zrd
 rw[yldb,y5cb]
 simp only
 rcases yl4 s with⟨a,b,d,r,hc,hp,he⟩|⟨hc,hp⟩
 ·rw[yul s hs,hc,hp]
  simp only[List.getD_cons_zero,List.getD_cons_succ]
  have hlen:a.length≤1048576∧b.length≤1048576∧r.length≤1048576:=by
   rw[he]at hs
   simp only[List.length_append,List.length_cons]at hs
   omega
  obtain⟨la,lb,lr⟩:=hlen
  rw[yte a la,yte r lr,yfk b lb,yyg r lr]
  have hbd:=y0g r lr
  have hal:aidL (ztb r).1:=⟨Nat.lt_of_lt_of_le hbd.2.2.1.2.2 (by decide),Nat.lt_of_lt_of_le hbd.2.2.2.1 (by decide)⟩
  have hsn:s≠[]:=by rw[he];simp
  rcases yvv d with⟨hk,hd⟩|hk
  ·have t0:(zf a).2=true→zl (zf a).1=a:=fun f=>(y5c la f).1.symm
   have t3:(zf r).2=true→zl (zf r).1=r:=fun f=>(y5c lr f).1.symm
   have t1:(znb b).2=true→zv (znb b).1=b:=fun f=>by
    rcases yje b with⟨x,_,_,h1,h2⟩|⟨_,h2⟩
    ·rw[h2];exact h1.symm
    ·rw[h2]at f;cases f
   have t2:(ztb r).2=true→zsc (ztb r).1=r:=fun f=>by
    rw[← yyg r lr]at f ⊢
    exact ypz r f
   generalize ytk d=k at hk hd
   have core:=yrv he
   cases f0:(zf a).2 with
   | false=>simp
   | true=>
   cases f1:(znb b).2 with
   | false=>simp
   | true=>
   rcases hk with rfl|rfl|rfl|rfl
   ·cases f2:(ztb r).2 with
    | false=>simp[zmd]
    | true=>
     have:=core ({ Number:=(zf a).1,Day:=(znb b).1,Kind:=1,Target:=0,Aid:=(ztb r).1:Notice }) hal (t0 f0) (t1 f1) hd (t2 f2)
     rw[this]
     rfl
   ·cases f2:(ztb r).2 with
    | false=>simp[zmd]
    | true=>
     have:=core ({ Number:=(zf a).1,Day:=(znb b).1,Kind:=2,Target:=0,Aid:=(ztb r).1:Notice }) hal (t0 f0) (t1 f1) hd (t2 f2)
     rw[this]
     rfl
   ·cases f2:(zf r).2 with
    | false=>simp[zmd]
    | true=>
     have:=core ({ Number:=(zf a).1,Day:=(znb b).1,Kind:=3,Target:=(zf r).1,Aid:=zAid:Notice }) yjab (t0 f0) (t1 f1) hd (t3 f2)
     rw[this]
     rfl
   ·cases f2:(zf r).2 with
    | false=>simp[zmd]
    | true=>
     have:=core ({ Number:=(zf a).1,Day:=(znb b).1,Kind:=4,Target:=(zf r).1,Aid:=zAid:Notice }) yjab (t0 f0) (t1 f1) hd (t3 f2)
     rw[this]
     rfl
  ·rw[hk]
   have e1:∀ n:Notice,n.Kind=0→aidL n.Aid→(zfg n != s)=true:=fun n h hA=>yxo hA (ycz h) hsn
   have q1:=e1 ({ Number:=(zf a).1,Day:=(znb b).1,Kind:=0,Target:=(zf r).1,Aid:=zAid:Notice }) rfl yjab
   have q2:zse ({ Number:=(zf a).1,Day:=(znb b).1,Kind:=0,Target:=0,Aid:=(ztb r).1:Notice })=false:=ycz rfl
   rw[q1,q2]
   simp[zmd]
 ·have h1:(((zbb s [32] 4).length:Int) != 4)=true:=by rw[bne_iff_ne];omega
  have h2:((((zq s 3).1).length:Int) != 3)=true:=by rw[yul s hs,bne_iff_ne];omega
  rw[h1,h2]
  rfl
abbrev ya1:Notice:={ Number:=0,Day:=0,Kind:=0,Target:=0,Aid:=zAid }
end Go.Ab

namespace Go.Ab
open Go Go.Proofs
def zrg (a0:Notice) (a1:Notice):Bool:=
 (bif (a0.Number != a1.Number)then false else(bif (a0.Day != a1.Day)then false else(bif (a0.Kind != a1.Kind)then false else(bif (a0.Target != a1.Target)then false else(bif (!(znf a0.Aid a1.Aid))then false else true)))))
namespace N47
theorem DD:DOk Tryz.prog (Go.Ab.DD [(33,dP D_znf)]):=ya ywx.e <| yc _
theorem dn:type_of% (@D_znf.eq_1):=by and_intros<;>intros<;>rfl
theorem den (a0:Notice) (a1:Notice)  : Den Tryz.prog 47 [.agg (ygc a0),.agg (ygc a1)] (.bool (zrg a0 a1)):=by
 generalize hR:zrg a0 a1=r
 unfold zrg at hR
 refine di Tryz.func47 Tryz.ntmps47 Tryz.results47 ?_
 intro c hL hc hk
 obtain⟨hL0,hL1,_⟩:=hL
 have hw0:bwNotice a0:=ytc a0 hL0
 have hw1:bwNotice a1:=ytc a1 hL1
 clear hL0 hL1
 simp only[pars,Nat.zero_add]
 iterate 2 refine rS ?_
 refine AWP.cond rfl (fun hb => ?_) (fun hb => ?_)
 ·replace hR:=ct hR
  refine rS ?_
  refine AWP.ret ?_
  subst hR
  exact es
 ·replace hR:=cf hR
  refine rS ?_
  refine AWP.cond rfl (fun hb => ?_) (fun hb => ?_)
  ·replace hR:=ct hR
   refine rS ?_
   refine AWP.ret ?_
   subst hR
   exact es
  ·replace hR:=cf hR
   refine rS ?_
   refine AWP.cond rfl (fun hb => ?_) (fun hb => ?_)
   ·replace hR:=ct hR
    refine rS ?_
    refine AWP.ret ?_
    subst hR
    exact es
   ·replace hR:=cf hR
    refine rS ?_
    refine AWP.cond rfl (fun hb => ?_) (fun hb => ?_)
    ·replace hR:=ct hR
     refine rS ?_
     refine AWP.ret ?_
     subst hR
     exact es
    ·replace hR:=cf hR
     refine rS ?_
     refine AWP.cond rfl (fun hb => ?_) (fun hb => ?_)
     ·replace hR:=ct hR
      refine rS ?_
      refine AWP.ret ?_
      subst hR
      exact es
     ·replace hR:=cf hR
      refine rS ?_
      refine AWP.ret ?_
      subst hR
      exact es
end N47
def D_zrg : DF
 | [x0,x1]=>some (.bool (zrg (rdG ynb x0) (rdG ynb x1)),false,[wG ygc ynb x0,wG ygc ynb x1])
 | _=>none
theorem yp4:OkD Tryz.prog 47 D_zrg:=by unfold D_zrg;exact dk N47.den
end Go.Ab

namespace Go.Ab
open Go Go.Proofs
theorem yz9 (a b:Notice):zrg a b=decide (a=b):=by
 unfold zrg
 simp only[y72]
 by_cases h:a=b
 ·subst h;simp
 ·rw[decide_eq_false h]
  cases a;cases b
  simp only[Notice.mk.injEq]at h
  simp only[bne_iff_ne,Bool.cond_eq_ite,ite_eq_right_iff]
  (repeat' split)<;>simp_all
end Go.Ab

namespace Go.Ab
open Go Go.Proofs
def zsg (a0:(List UInt8)):(Notice×Bool):=
 ((zrd a0).1,(zrd a0).2)
namespace N72
theorem DD:DOk Tryz.prog (Go.Ab.DD [(162,dP D_zrd)]):=ya yx6.e <| yc _
theorem dn:type_of% (@D_zrd.eq_1):=by and_intros<;>intros<;>rfl
theorem den (a0:(List UInt8)) (hb0:a0.length<1099511627776) (hp0:a0.length≤1048576):Den Tryz.prog 72 [.str a0] (.tup [.agg (y8c ((zsg a0).1)),.bool ((zsg a0).2)]):=by
 generalize hR:zsg a0=r
 unfold zsg at hR
 refine di Tryz.func72 Tryz.ntmps72 Tryz.results72 ?_
 intro c hL hc hk
 obtain⟨hL0,_⟩:=hL
 have hw0:a0.length<9223372036854775808:=Nat.lt_succ_of_le hL0
 clear hL0
 simp only[pars,Nat.zero_add]
 iterate 2 refine rS ?_
 refine AWP.ret ?_
 subst hR
 exact es
end N72
def D_zsg : DF
 | [x0]=>some (.tup [.agg (y8c ((zsg (rdS x0)).1)),.bool ((zsg (rdS x0)).2)],false,[wS x0,(rdS x0).length<1099511627776,(rdS x0).length≤1048576])
 | _=>none
theorem y24:OkD Tryz.prog 72 D_zsg:=by unfold D_zsg;exact dk N72.den
end Go.Ab

namespace Go.Ab
open Go Go.Proofs
theorem y2o (a:Aid) (k:Int) (h:k≤9223372036854775807):(zkc a k).1≤9223372036854775807:=by
 unfold zkc
 exact yvb _ _ (y1f _ _ h)
theorem yqe (a:Aid) (k:Int):(zkc a k).2.Light.Group.length=a.Light.Group.length:=by
 unfold zkc
 exact ylg _ _
theorem yfe (a:Aid) (k:Int):(zkc a k).2.Sectors.length=a.Sectors.length:=by
 unfold zkc
 exact y6 _ _
theorem ygk (a:Aid) (k:Int):subL (zkc a k).2.Light.Group 0 a.Light.Group.length=(zkc a k).2.Light.Group:=by
 rw[← yqe a k];exact y3c _
theorem yhk (a:Aid) (k:Int):subL (zkc a k).2.Sectors 0 a.Sectors.length=(zkc a k).2.Sectors:=by
 rw[← yfe a k];exact y3c _
end Go.Ab

namespace Go.Ab
open Go Go.Proofs
def zxb (a0:Notice) (a1:Int):Int×Notice:=
 (((zkc a0.Aid a1).1),{ a0 with Aid:={ a0.Aid with Light:={ a0.Aid.Light with Group:=(((zkc a0.Aid a1).2).Light).Group },Sectors:=((zkc a0.Aid a1).2).Sectors }})
namespace N74
theorem DD:DOk Tryz.prog (Go.Ab.DD [(55,dM [true,false] D_zkc)]):=ya y75.e <| yc _
theorem dn:type_of% (And.intro @D_zkc.eq_1 <| And.intro @ygk <| @yhk):=And.intro @D_zkc.eq_1 <| And.intro @ygk <| @yhk
theorem ol:type_of% (And.intro @yqe <| @yfe):=And.intro @yqe <| @yfe
theorem gr {p:Prop} (h:p:=by(grind [y2o]);first|done|fail):p:=h
theorem o1 {p:Prop} (h:p:=by(first|exact mrg);first|done|fail):p:=h
theorem den (a0:Notice) (a1:Int) (hp0:a1≤9223372036854775807):DenM Tryz.prog 74 [.agg (y8c a0),.int .i64 a1] (.int .i64 ((zxb a0 a1).1)) [(.agg [.any,.any,.any,.any,.any,.any,.any,.any,.any,.any,.any,.any,.any,.any,(ownL 2 1 yr (((((zxb a0 a1).2).Aid).Light).Group)),.any,.any,.any,(ownL 188 3 yk ((((zxb a0 a1).2).Aid).Sectors)),.any]),.any]:=by
 generalize hR:zxb a0 a1=r
 unfold zxb at hR
 refine dj (gb:=[true,false]) Tryz.func74 Tryz.ntmps74 Tryz.results74 ?_
 intro c hL hc hk
 obtain⟨hL0,hL1,_⟩:=hL
 have hw0:bwNotice a0:=yhr a0 hL0
 clear hL0 hL1
 simp only[adEL,adE,adRL,adR,ownL,encL,sv,List.nil_append,List.append_nil,List.cons_append,List.length_cons,List.length_nil,pars,Nat.zero_add,Nat.reduceAdd]at hk ⊢
 iterate 3 refine rS ?_
 refine AWP.ret ?_
 subst hR
 exact es
end N74
def D_zxb : List AV → Option (AV × List AV × List Prop)
 | [x0,x1]=>some (.int .i64 ((zxb (rdG ynb x0) (rdI x1)).1),[(.agg [.any,.any,.any,.any,.any,.any,.any,.any,.any,.any,.any,.any,.any,.any,(ownL 2 1 yr (((((zxb (rdG ynb x0) (rdI x1)).2).Aid).Light).Group)),.any,.any,.any,(ownL 188 3 yk ((((zxb (rdG ynb x0) (rdI x1)).2).Aid).Sectors)),.any]),.any],[wGO y8c ynb x0,wI .i64 x1,(rdI x1)≤9223372036854775807])
 | _=>none
theorem y64:OkM Tryz.prog 74 D_zxb:=by unfold D_zxb;exact dm N74.den
end Go.Ab

namespace Go.Ab
open Go Go.Proofs
def zih (a0:Notice) (a1:Int):Int:=
 (bif decide ((zmh a0.Aid a1)<0)then(-1)else(zmh a0.Aid a1))
namespace N75
theorem DD:DOk Tryz.prog (Go.Ab.DD [(56,dP D_zmh)]):=ya yt6.e <| yc _
theorem dn:type_of% (@D_zmh.eq_1):=by and_intros<;>intros<;>rfl
theorem o1 {p:Prop} (h:p:=by(first|exact mrg);first|done|fail):p:=h
theorem den (a0:Notice) (a1:Int) (hp0:a1≤9223372036854775807):Den Tryz.prog 75 [.agg (ygc a0),.int .i64 a1] (.int .i64 (zih a0 a1)):=by
 generalize hR:zih a0 a1=r
 unfold zih at hR
 refine di Tryz.func75 Tryz.ntmps75 Tryz.results75 ?_
 intro c hL hc hk
 obtain⟨hL0,hL1,_⟩:=hL
 have hw0:bwNotice a0:=ytc a0 hL0
 clear hL0 hL1
 simp only[pars,Nat.zero_add]
 iterate 3 refine rS ?_
 refine AWP.cond rfl (fun hb => ?_) (fun hb => ?_)
 ·replace hR:=ct hR
  refine rS ?_
  refine AWP.ret ?_
  subst hR
  exact es
 ·replace hR:=cf hR
  refine rS ?_
  refine AWP.ret ?_
  subst hR
  exact es
end N75
def D_zih : DF
 | [x0,x1]=>some (.int .i64 (zih (rdG ynb x0) (rdI x1)),false,[wG ygc ynb x0,wI .i64 x1,(rdI x1)≤9223372036854775807])
 | _=>none
theorem yn4:OkD Tryz.prog 75 D_zih:=by unfold D_zih;exact dk N75.den
end Go.Ab

namespace Go.Ab
open Go Go.Proofs
theorem yfq (a:Notice) (k:Int) (h:k≤9223372036854775807):(zxb a k).1≤9223372036854775807:=by
 unfold zxb
 exact y2o _ _ h
theorem yad (a:Notice) (k:Int):(zxb a k).2.Aid.Light.Group.length=a.Aid.Light.Group.length:=by
 unfold zxb
 exact yqe _ _
theorem y6c (a:Notice) (k:Int):(zxb a k).2.Aid.Sectors.length=a.Aid.Sectors.length:=by
 unfold zxb
 exact yfe _ _
theorem y7f (a:Notice) (k:Int):subL (zxb a k).2.Aid.Light.Group 0 a.Aid.Light.Group.length=(zxb a k).2.Aid.Light.Group:=by
 rw[← yad a k];exact y3c _
theorem yig (a:Notice) (k:Int):subL (zxb a k).2.Aid.Sectors 0 a.Aid.Sectors.length=(zxb a k).2.Aid.Sectors:=by
 rw[← y6c a k];exact y3c _
end Go.Ab

namespace Go.Ab
open Go Go.Proofs
def zmi (a0:(List UInt8)):Bool:=
 (bif decide (1048576<(a0.length:Int))then true else(bif ((!(zrg ((zt a0).1) ((zsg a0).1))) || (!(((zt a0).2) == ((zsg a0).2))))then false else(bif decide ((zih ({ Number:=((zt a0).1).Number,Day:=((zt a0).1).Day,Kind:=((zt a0).1).Kind,Target:=((zt a0).1).Target,Aid:={ Number:=(((zt a0).1).Aid).Number,Name:=(((zt a0).1).Aid).Name,At:=(((zt a0).1).Aid).At,Height:=(((zt a0).1).Aid).Height,Mark:=(((zt a0).1).Aid).Mark,Light:={ Kind:=((((zt a0).1).Aid).Light).Kind,Group:=((((zxb ((zt a0).1) 1).2).Aid).Light).Group,Letter:=((((zt a0).1).Aid).Light).Letter,Colors:=((((zt a0).1).Aid).Light).Colors,Period:=((((zt a0).1).Aid).Light).Period:Character },Sectors:=(((zxb ((zt a0).1) 1).2).Aid).Sectors,Intensity:=(((zt a0).1).Aid).Intensity:Aid }:Notice }) 1)<0)then false else(bif ((zih ({ Number:=((zt a0).1).Number,Day:=((zt a0).1).Day,Kind:=((zt a0).1).Kind,Target:=((zt a0).1).Target,Aid:={ Number:=(((zt a0).1).Aid).Number,Name:=(((zt a0).1).Aid).Name,At:=(((zt a0).1).Aid).At,Height:=(((zt a0).1).Aid).Height,Mark:=(((zt a0).1).Aid).Mark,Light:={ Kind:=((((zt a0).1).Aid).Light).Kind,Group:=((((zxb ((zt a0).1) 1).2).Aid).Light).Group,Letter:=((((zt a0).1).Aid).Light).Letter,Colors:=((((zt a0).1).Aid).Light).Colors,Period:=((((zt a0).1).Aid).Light).Period:Character },Sectors:=(((zxb ((zt a0).1) 1).2).Aid).Sectors,Intensity:=(((zt a0).1).Aid).Intensity:Aid }:Notice }) 1) != ((zxb ((zt a0).1) 1).1))then false else true))))
namespace N11
theorem DD:DOk Tryz.prog (Go.Ab.DD [(47,dP D_zrg),(72,dP D_zsg),(73,dP D_zt),(74,dM [true,false] D_zxb),(75,dP D_zih)]):=ya yp4.e <| ya y24.e <| ya yy9.e <| ya y64.e <| ya yn4.e <| yc _
theorem dn:type_of% (And.intro @D_zrg.eq_1 <| And.intro @D_zsg.eq_1 <| And.intro @D_zt.eq_1 <| And.intro @D_zxb.eq_1 <| And.intro @D_zih.eq_1 <| And.intro @y7f <| @yig):=And.intro @D_zrg.eq_1 <| And.intro @D_zsg.eq_1 <| And.intro @D_zt.eq_1 <| And.intro @D_zxb.eq_1 <| And.intro @D_zih.eq_1 <| And.intro @y7f <| @yig
theorem ol:type_of% (And.intro @yad <| @y6c):=And.intro @yad <| @y6c
theorem gr {p:Prop} (h:p:=by(grind [yfq]);first|done|fail):p:=h
theorem o1 {p:Prop} (h:p:=by(first|(simp only[yad,y6c];first|exact yab _|exact Nat.le_refl _|omega));first|done|fail):p:=h
set_option maxHeartbeats 4000000 in
set_option maxRecDepth 20000 in
theorem _root_.Go.Ab.zmi_den (a0:(List UInt8))  : Den Tryz.prog 11 [.str a0] (.bool (zmi a0)):=by
 generalize hR:zmi a0=r
 unfold zmi at hR
 refine di Tryz.func11 Tryz.ntmps11 Tryz.results11 ?_
 intro c hL hc hk
 obtain⟨hL0,_⟩:=hL
 have hw0:a0.length<9223372036854775808:=Nat.lt_succ_of_le hL0
 clear hL0
 simp only[pars,Nat.zero_add]
 iterate 2 refine rS ?_
 refine AWP.cond rfl (fun hb => ?_) (fun hb => ?_)
 ·replace hR:=ct hR
  refine rS ?_
  refine AWP.ret ?_
  subst hR
  exact es
 ·replace hR:=cf hR
  iterate 3 refine rS ?_
  refine AWP.cond rfl (fun hb => ?_) (fun hb => ?_)
  ·replace hR:=ct hR
   refine rS ?_
   refine AWP.ret ?_
   subst hR
   exact es
  ·replace hR:=cf hR
   iterate 5 refine rS ?_
   refine AWP.cond rfl (fun hb => ?_) (fun hb => ?_)
   ·replace hR:=ct hR
    refine rS ?_
    refine AWP.ret ?_
    subst hR
    exact es
   ·replace hR:=cf hR
    refine rS ?_
    refine AWP.cond rfl (fun hb => ?_) (fun hb => ?_)
    ·replace hR:=ct hR
     refine rS ?_
     refine AWP.ret ?_
     subst hR
     exact es
    ·replace hR:=cf hR
     iterate 2 refine rS ?_
     refine AWP.cond rfl (fun hb => ?_) (fun hb => ?_)
     ·exfalso;simp_all
     ·refine rS ?_
      iterate 2 refine rS ?_
      refine AWP.cond rfl (fun hb => ?_) (fun hb => ?_)
      ·exfalso;simp_all
      ·refine rS ?_
       refine AWP.cond rfl (fun hb => ?_) (fun hb => ?_)
       ·exfalso;simp_all
       ·refine rS ?_
        refine AWP.ret ?_
        subst hR
        exact es
end N11
end Go.Ab

namespace Go.Ab
open Go Go.Proofs
theorem y9u (s:List UInt8):(zrd s).1.Aid.Light.Group.length≤4∧(zrd s).1.Aid.Sectors.length≤12:=by
 have hz:ya1.Aid.Light.Group.length≤4∧ya1.Aid.Sectors.length≤12:=by decide
 unfold zrd
 rw[y5cb]
 simp only[Bool.cond_eq_ite]
 have h1:=yus (zq s 3).2
 (repeat' split)<;>first|exact hz|exact h1
theorem y0m (n:Notice) (k:Int) (h0:0≤k) (h1:k≤1000000) (hg:n.Aid.Light.Group.length≤1048576) (hs:n.Aid.Sectors.length≤1048576):zih (zxb n k).2 k=(zxb n k).1∧¬ (zxb n k).1<0:=by
 have hm:=yms n.Aid k h0 h1 hg hs
 have e:(zxb n k).2.Aid=(zkc n.Aid k).2:=rfl
 unfold zih
 rw[e,hm.1,decide_eq_false hm.2]
 exact⟨rfl,hm.2⟩
theorem yqn (a0:List UInt8) (hf:a0.length<9223372036854775808):zmi a0=true:=by
 unfold zmi
 by_cases h:1048576<(a0.length:Int)
 ·rw[decide_eq_true h];rfl
 ·rw[decide_eq_false h]
  have e:zsg a0=zt a0:=(ynr a0 (by omega)).symm
  have hg:=y9u a0
  rw[← ynr a0 (by omega)]at hg
  rw[e]
  generalize zt a0=r at hg
  have hm:=y0m r.1 1 (by omega) (by omega) (by omega) (by omega)
  have e2:({ Number:=(r.1).Number,Day:=(r.1).Day,Kind:=(r.1).Kind,Target:=(r.1).Target,Aid:={ Number:=((r.1).Aid).Number,Name:=((r.1).Aid).Name,At:=((r.1).Aid).At,Height:=((r.1).Aid).Height,Mark:=((r.1).Aid).Mark,Light:={ Kind:=(((r.1).Aid).Light).Kind,Group:=((((zxb (r.1) 1).2).Aid).Light).Group,Letter:=(((r.1).Aid).Light).Letter,Colors:=(((r.1).Aid).Light).Colors,Period:=(((r.1).Aid).Light).Period:Character },Sectors:=(((zxb (r.1) 1).2).Aid).Sectors,Intensity:=((r.1).Aid).Intensity:Aid }:Notice })=(zxb r.1 1).2:=rfl
  rw[e2,hm.1,decide_eq_false hm.2]
  simp only[yz9]
  simp
end Go.Ab
