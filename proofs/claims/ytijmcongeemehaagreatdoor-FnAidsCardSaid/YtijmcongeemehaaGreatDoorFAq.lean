/- A part of a proof: walks of functions and lemmas of our own. No conditions. -/
import Derived.Test.YtijmcongeemehaaGreatDoorFAl
import Derived.Test.YtijmcongeemehaaGreatDoorFAn
import Derived.Test.YtijmcongeemehaaGreatDoorFAo
import Derived.Test.YtijmcongeemehaaGreatDoorFAi
set_option linter.unusedSectionVars false
set_option linter.unusedVariables false
set_option linter.unusedSimpArgs false
set_option maxHeartbeats 1000000
namespace Go.Ab
open Go Go.Proofs
def zu (a0:Int):(List UInt8):=
 (zlg a0 10)
namespace N63
theorem DD:DOk Tryz.prog (Go.Ab.DD [(146,dP D_zlg)]):=ya yn0.e <| ye _
theorem dn:type_of% (@D_zlg.eq_1):=by and_intros<;>intros<;>rfl
theorem den (a0:Int) (hp0 : -9223372036854775808<=a0) (hp1:a0<=9223372036854775807):Den Tryz.prog 63 [.int .i64 a0] (.str (zu a0)):=by
 generalize hR:zu a0=r;unfold zu at hR;refine di Tryz.func63 Tryz.ntmps63 Tryz.results63 ?_;intro c hL hc hk;clear hL;simp only[pars,Nat.zero_add];iterate 2 refine rS ?_
 refine AWP.ret ?_;subst hR;exact es
end N63
def D_zu : DF
 | [x0]=>some (.str (zu (rdI x0)),false,[wI .i64 x0,-9223372036854775808<=(rdI x0),(rdI x0)<=9223372036854775807])
 | _=>none
theorem y6j:OkD Tryz.prog 63 D_zu:=by unfold D_zu;exact dk N63.den
theorem ymx (n:Int):(Go.Lib.itoa n).length<=n.natAbs+2:=by
 unfold Go.Lib.itoa;split
 ·have:=y9c n.natAbs
  simp only[List.length_cons];omega
 ·have:=y9c n.toNat
  omega
theorem yo2 (n:Int):zu n=Go.Lib.itoa n:=rfl
theorem yxe (n:Int):(zu n).length<=n.natAbs+2:=ymx n
def zyb (a0:Int) (a1:Int):Bool:=
 decide (a0<=a1)
namespace N110
theorem DD:DOk Tryz.prog (Go.Ab.DD []):=ye _
theorem den (a0:Int) (a1:Int)  : Den Tryz.prog 110 [.int .i64 a0,.int .i64 a1] (.bool (zyb a0 a1)):=by
 generalize hR:zyb a0 a1=r;unfold zyb at hR;refine di Tryz.func110 Tryz.ntmps110 Tryz.results110 ?_;intro c hL hc hk;clear hL;simp only[pars,Nat.zero_add];iterate 2 refine rS ?_
 refine AWP.ret ?_;subst hR;exact es
end N110
def D_zyb : DF
 | [x0,x1]=>some (.bool (zyb (rdI x0) (rdI x1)),false,[wI .i64 x0,wI .i64 x1])
 | _=>none
theorem ych:OkD Tryz.prog 110 D_zyb:=by unfold D_zyb;exact dk N110.den
def zk (a0:Int) (a1:Int) (a2:Int):Bool:=
 (decide (a1<=a0) && decide (a0<=a2))
namespace N111
theorem DD:DOk Tryz.prog (Go.Ab.DD []):=ye _
theorem den (a0:Int) (a1:Int) (a2:Int)  : Den Tryz.prog 111 [.int .i64 a0,.int .i64 a1,.int .i64 a2] (.bool (zk a0 a1 a2)):=by
 generalize hR:zk a0 a1 a2=r;unfold zk at hR;refine di Tryz.func111 Tryz.ntmps111 Tryz.results111 ?_;intro c hL hc hk;clear hL;simp only[pars,Nat.zero_add];iterate 2 refine rS ?_
 refine AWP.ret ?_;subst hR;exact es
end N111
def D_zk : DF
 | [x0,x1,x2]=>some (.bool (zk (rdI x0) (rdI x1) (rdI x2)),false,[wI .i64 x0,wI .i64 x1,wI .i64 x2])
 | _=>none
theorem yed:OkD Tryz.prog 111 D_zk:=by unfold D_zk;exact dk N111.den
def zag (a0:Int):Bool:=
 (zk a0 0 359)
namespace N275
theorem DD:DOk Tryz.prog (Go.Ab.DD [(111,dP D_zk)]):=ya yed.e <| ye _
theorem dn:type_of% (@D_zk.eq_1):=by and_intros<;>intros<;>rfl
theorem ol:type_of% (@zk.eq_1):=@zk.eq_1
theorem den (a0:Int)  : Den Tryz.prog 275 [.int .i64 a0] (.bool (zag a0)):=by
 generalize hR:zag a0=r;unfold zag at hR;refine di Tryz.func275 Tryz.ntmps275 Tryz.results275 ?_;intro c hL hc hk;clear hL;simp only[pars,Nat.zero_add];iterate 2 refine rS ?_
 refine AWP.ret ?_;subst hR;exact es
end N275
def D_zag : DF
 | [x0]=>some (.bool (zag (rdI x0)),false,[wI .i64 x0])
 | _=>none
theorem yy0:OkD Tryz.prog 275 D_zag:=by unfold D_zag;exact dk N275.den
def zsf (a0:(List UInt8)):Bool:=
 (((a0.length:Int) == 1) && (zhc [87,82,71,89] a0))
namespace N276
theorem DD:DOk Tryz.prog (Go.Ab.DD [(222,dP D_zhc)]):=ya ysv.e <| ye _
theorem dn:type_of% (@D_zhc.eq_1):=by and_intros<;>intros<;>rfl
theorem den (a0:(List UInt8))  : Den Tryz.prog 276 [.str a0] (.bool (zsf a0)):=by
 generalize hR:zsf a0=r;unfold zsf at hR;refine di Tryz.func276 Tryz.ntmps276 Tryz.results276 ?_;intro c hL hc hk;obtain⟨hL0,_⟩:=hL;have hw0:a0.length<9223372036854775808:=Nat.lt_succ_of_le hL0;clear hL0;simp only[pars,Nat.zero_add];iterate 2 refine rS ?_
 refine AWP.ret ?_;subst hR;exact es
end N276
def D_zsf : DF
 | [x0]=>some (.bool (zsf (rdS x0)),false,[wS x0])
 | _=>none
theorem yk1:OkD Tryz.prog 276 D_zsf:=by unfold D_zsf;exact dk N276.den
def ztf (a0:Sector):Bool:=
 (((zag a0.From) && (zag a0.To)) && (zsf a0.Color))
namespace N219
theorem DD:DOk Tryz.prog (Go.Ab.DD [(275,dP D_zag),(276,dP D_zsf)]):=ya yy0.e <| ya yk1.e <| ye _
theorem dn:type_of% (And.intro @D_zag.eq_1 <| @D_zsf.eq_1):=by and_intros<;>intros<;>rfl
theorem den (a0:Sector)  : Den Tryz.prog 219 [.agg (yl a0)] (.bool (ztf a0)):=by
 generalize hR:ztf a0=r;unfold ztf at hR;refine di Tryz.func219 Tryz.ntmps219 Tryz.results219 ?_;intro c hL hc hk;obtain⟨hL0,_⟩:=hL;have hw0:bwSector a0:=y9 a0 hL0;clear hL0;simp only[pars,Nat.zero_add];iterate 2 refine rS ?_
 refine AWP.ret ?_;subst hR;exact es
end N219
def D_ztf : DF
 | [x0]=>some (.bool (ztf (rdG yv x0)),false,[wG yl yv x0])
 | _=>none
theorem yx2:OkD Tryz.prog 219 D_ztf:=by unfold D_ztf;exact dk N219.den
def zue (a0:Int) (a1:Int):Int:=
 (IntKind.wrap .i64 ((a0.tmod a1)+a1)).tmod a1
namespace N277
theorem DD:DOk Tryz.prog (Go.Ab.DD []):=ye _
theorem den (a0:Int) (a1:Int) (hp0:0<a1):Den Tryz.prog 277 [.int .i64 a0,.int .i64 a1] (.int .i64 (zue a0 a1)):=by
 generalize hR:zue a0 a1=r;unfold zue at hR;refine di Tryz.func277 Tryz.ntmps277 Tryz.results277 ?_;intro c hL hc hk;clear hL;simp only[pars,Nat.zero_add];iterate 2 refine rS ?_
 refine AWP.ret ?_;subst hR;exact es
end N277
def D_zue : DF
 | [x0,x1]=>some (.int .i64 (zue (rdI x0) (rdI x1)),false,[wI .i64 x0,wI .i64 x1,0<(rdI x1)])
 | _=>none
theorem yhv:OkD Tryz.prog 277 D_zue:=by unfold D_zue;exact dk N277.den
def ztd (a0:Sector):Int:=
 IntKind.wrap .i64 ((zue (IntKind.wrap .i64 ((IntKind.wrap .i64 (a0.To-a0.From))-1)) 360)+1)
namespace N221
theorem DD:DOk Tryz.prog (Go.Ab.DD [(277,dP D_zue)]):=ya yhv.e <| ye _
theorem dn:type_of% (@D_zue.eq_1):=by and_intros<;>intros<;>rfl
theorem den (a0:Sector)  : Den Tryz.prog 221 [.agg (yl a0)] (.int .i64 (ztd a0)):=by
 generalize hR:ztd a0=r;unfold ztd at hR;refine di Tryz.func221 Tryz.ntmps221 Tryz.results221 ?_;intro c hL hc hk;obtain⟨hL0,_⟩:=hL;have hw0:bwSector a0:=y9 a0 hL0;clear hL0;simp only[pars,Nat.zero_add];iterate 2 refine rS ?_
 refine AWP.ret ?_;subst hR;exact es
end N221
def D_ztd : DF
 | [x0]=>some (.int .i64 (ztd (rdG yv x0)),false,[wG yl yv x0])
 | _=>none
theorem y7u:OkD Tryz.prog 221 D_ztd:=by unfold D_ztd;exact dk N221.den
def zbf (a0:Sector) (a1:Int):Bool:=
 decide ((zue (IntKind.wrap .i64 (a1-a0.From)) 360)<(ztd a0))
namespace N220
theorem DD:DOk Tryz.prog (Go.Ab.DD [(221,dP D_ztd),(277,dP D_zue)]):=ya y7u.e <| ya yhv.e <| ye _
theorem dn:type_of% (And.intro @D_ztd.eq_1 <| @D_zue.eq_1):=by and_intros<;>intros<;>rfl
theorem den (a0:Sector) (a1:Int)  : Den Tryz.prog 220 [.agg (yl a0),.int .i64 a1] (.bool (zbf a0 a1)):=by
 generalize hR:zbf a0 a1=r;unfold zbf at hR;refine di Tryz.func220 Tryz.ntmps220 Tryz.results220 ?_;intro c hL hc hk;obtain⟨hL0,hL1,_⟩:=hL;have hw0:bwSector a0:=y9 a0 hL0;clear hL0 hL1;simp only[pars,Nat.zero_add];refine rS ?_;refine rD 6 ?_;refine AWP.ret ?_;subst hR;exact es
end N220
def D_zbf : DF
 | [x0,x1]=>some (.bool (zbf (rdG yv x0) (rdI x1)),false,[wG yl yv x0,wI .i64 x1])
 | _=>none
theorem ye2:OkD Tryz.prog 220 D_zbf:=by unfold D_zbf;exact dk N220.den
def yri (a0:(List Sector)) (i1:Nat) (s1:Int) (i2:Nat) (s2:Unit):Except (Bool) (Unit):=
 (bif (((i2:Int) != (i1:Int)) && (zbf (a0.getD i1 default) ((a0.getD i2 default).From)))then .error false else .ok ())
def ywh (a0:(List Sector)) (i1:Nat) (s1:Int):Except (Bool) (Int):=
 (bif ((!(ztf (a0.getD i1 default))) || (decide (0<(i1:Int)) && decide (((a0.getD i1 default).From)<=((a0.getD ((IntKind.wrap .i64 ((i1:Int)-1)).toNat) default).From))))then .error false else(match yf (yri a0 i1 s1) (a0.length-0) 0 ()with|.error e=>.error e|.ok s2=>.ok (IntKind.wrap .i64 (s1+(ztd (a0.getD i1 default))))))
def znb (a0:(List Sector)):Bool:=
 (match yf (ywh a0) (a0.length-0) 0 0 with|.error e=>e|.ok s1=>((zyb (a0.length:Int) 12) && decide (s1<=360)))
namespace N139
theorem DD:DOk Tryz.prog (Go.Ab.DD [(110,dP D_zyb),(219,dP D_ztf),(220,dP D_zbf),(221,dP D_ztd)]):=ya ych.e <| ya yx2.e <| ya ye2.e <| ya y7u.e <| ye _
theorem dn:type_of% (And.intro @D_zyb.eq_1 <| And.intro @D_ztf.eq_1 <| And.intro @D_zbf.eq_1 <| @D_ztd.eq_1):=by and_intros<;>intros<;>rfl
theorem den (a0:(List Sector))  : Den Tryz.prog 139 [encL 3 yl a0] (.bool (znb a0)):=by
 generalize hR:znb a0=r;unfold znb at hR;refine di Tryz.func139 Tryz.ntmps139 Tryz.results139 ?_;intro c hL hc hk;obtain⟨hL0,_⟩:=hL;have hw0:a0.length<9223372036854775808:=Nat.lt_succ_of_le (yc hL0).1;have hw1:∀ v∈a0,bwSector v:=fun v hv=>y9 v ((yc hL0).2 v hv)
 clear hL0;simp only[pars,Nat.zero_add];iterate 3 refine rS ?_
 refine AWP.block ?_;generalize hz1:yf (ywh a0) (a0.length-0) 0 0=z1 at hR;refine AWP.range (ywh a0) (fun i1 s1=>⟨[(0,encL 3 yl a0),(3,.int .i64 s1),(8,encL 3 yl a0),(9,.int .i64 (a0.length:Int)),(10,.int .i64 (i1:Int))],[]⟩) (fun i1 s1=>True) (a0.length) 0 0 [] hz1 ot wt sm ?_;clear hz1;intro i1 s1 hi1 hW1 hz1;refine rS ?_;refine AWP.seq ?_;refine AWP.cond rfl (fun hb => ?_) (fun hb => ?_)
 ·have hlt1:i1<a0.length:=ot
  rw[yp hlt1]at hz1;simp only[ywh]at hz1;refine rS ?_;refine rD 18 ?_;refine AWP.cond rfl (fun hb => ?_) (fun hb => ?_)
  ·simp only[hb,cond_true]at hz1
   refine rS ?_;refine AWP.ret ?_;subst hz1;dsimp only at hR;subst hR;exact es
  ·simp only[hb,cond_false]at hz1
   refine rS ?_;refine AWP.block ?_;generalize hz2:yf (yri a0 i1 s1) (a0.length-0) 0 ()=z2 at hz1;refine AWP.range (yri a0 i1 s1) (fun i2 s2=>⟨[(0,encL 3 yl a0),(3,.int .i64 s1),(4,.int .i64 (i1:Int)),(5,.ptr 0 0),(8,encL 3 yl a0),(9,.int .i64 (a0.length:Int)),(10,.int .i64 (i1:Int)),(33,encL 3 yl a0),(34,.int .i64 (a0.length:Int)),(35,.int .i64 (i2:Int))],[.box [.int .i64 ((a0.getD i1 default).From),.int .i64 ((a0.getD i1 default).To),.str ((a0.getD i1 default).Color)]]⟩) (fun i2 s2=>True) (a0.length) 0 () [0] hz2 ot wt sm ?_;clear hz2;intro i2 s2 hi2 hW2 hz2;refine rS ?_;refine AWP.seq ?_;refine AWP.cond rfl (fun hb => ?_) (fun hb => ?_)
   ·have hlt2:i2<a0.length:=ot
    rw[yp hlt2]at hz2;simp only[yri]at hz2;iterate 2 refine rS ?_
    refine AWP.cond rfl (fun hb => ?_) (fun hb => ?_)
    ·simp only[hb,cond_true]at hz2
     refine rS ?_;refine AWP.ret ?_;subst hz2;dsimp only at hz1;subst hz1;dsimp only at hR;subst hR;exact es
    ·simp only[hb,cond_false]at hz2
     refine rS ?_;exact⟨_,[0],hlt2,wt,hz2,sm⟩
   ·obtain rfl:i2=a0.length:=ot
    rw[yq (Nat.le_refl _)]at hz2;subst hz2;dsimp only at hz1;refine AWP.exit ?_;refine yb ?_;iterate 2 refine rS ?_
    exact⟨_,[],hlt1,wt,hz1,sm⟩
 ·obtain rfl:i1=a0.length:=ot
  rw[yq (Nat.le_refl _)]at hz1;subst hz1;dsimp only at hR;refine AWP.exit ?_;refine yb ?_;refine rS ?_;refine AWP.ret ?_;subst hR;exact es
end N139
def D_znb : DF
 | [x0]=>some (.bool (znb (rdL yv x0)),false,[wL 3 yl yv x0])
 | _=>none
theorem yln:OkD Tryz.prog 139 D_znb:=by unfold D_znb;exact dk N139.den
def zkf (a0:Int):Bool:=
 (zk a0 1 9)
namespace N210
theorem DD:DOk Tryz.prog (Go.Ab.DD [(111,dP D_zk)]):=ya yed.e <| ye _
theorem dn:type_of% (@D_zk.eq_1):=by and_intros<;>intros<;>rfl
theorem ol:type_of% (@zk.eq_1):=@zk.eq_1
theorem den (a0:Int)  : Den Tryz.prog 210 [.int .i64 a0] (.bool (zkf a0)):=by
 generalize hR:zkf a0=r;unfold zkf at hR;refine di Tryz.func210 Tryz.ntmps210 Tryz.results210 ?_;intro c hL hc hk;clear hL;simp only[pars,Nat.zero_add];iterate 2 refine rS ?_
 refine AWP.ret ?_;subst hR;exact es
end N210
def D_zkf : DF
 | [x0]=>some (.bool (zkf (rdI x0)),false,[wI .i64 x0])
 | _=>none
theorem yev:OkD Tryz.prog 210 D_zkf:=by unfold D_zkf;exact dk N210.den
def zcf (a0:Int) (a1:Int):Bool:=
 (decide (0<=a0) && decide (a0<a1))
namespace N284
theorem DD:DOk Tryz.prog (Go.Ab.DD []):=ye _
theorem den (a0:Int) (a1:Int)  : Den Tryz.prog 284 [.int .i64 a0,.int .i64 a1] (.bool (zcf a0 a1)):=by
 generalize hR:zcf a0 a1=r;unfold zcf at hR;refine di Tryz.func284 Tryz.ntmps284 Tryz.results284 ?_;intro c hL hc hk;clear hL;simp only[pars,Nat.zero_add];iterate 2 refine rS ?_
 refine AWP.ret ?_;subst hR;exact es
end N284
def D_zcf : DF
 | [x0,x1]=>some (.bool (zcf (rdI x0) (rdI x1)),false,[wI .i64 x0,wI .i64 x1])
 | _=>none
theorem yf1:OkD Tryz.prog 284 D_zcf:=by unfold D_zcf;exact dk N284.den
def zzb (a0:Int) (a1:(List (List UInt8))):(List UInt8):=
 (bif (!(zcf a0 (a1.length:Int)))then[]else(a1.getD ((a0).toNat) default))
namespace N227
theorem DD:DOk Tryz.prog (Go.Ab.DD [(284,dP D_zcf)]):=ya yf1.e <| ye _
theorem dn:type_of% (@D_zcf.eq_1):=by and_intros<;>intros<;>rfl
theorem ol:type_of% (@zcf.eq_1):=@zcf.eq_1
theorem den (a0:Int) (a1:(List (List UInt8)))  : Den Tryz.prog 227 [.int .i64 a0,encL 1 eS a1] (.str (zzb a0 a1)):=by
 generalize hR:zzb a0 a1=r;unfold zzb at hR;refine di Tryz.func227 Tryz.ntmps227 Tryz.results227 ?_;intro c hL hc hk;obtain⟨hL0,hL1,_⟩:=hL;have hw0:a1.length<9223372036854775808:=Nat.lt_succ_of_le (yc hL1).1;have hw1:∀ v∈a1,bwS v:=fun v hv=>y2t v ((yc hL1).2 v hv)
 clear hL0 hL1;simp only[pars,Nat.zero_add];iterate 2 refine rS ?_
 refine AWP.cond rfl (fun hb => ?_) (fun hb => ?_)
 ·replace hR:=ct hR
  refine rS ?_;refine AWP.ret ?_;subst hR;exact es
 ·replace hR:=cf hR
  refine rS ?_;refine AWP.ret ?_;subst hR;exact es
end N227
def D_zzb : DF
 | [x0,x1]=>some (.str (zzb (rdI x0) (rdL dS x1)),false,[wI .i64 x0,wL 1 eS dS x1])
 | _=>none
theorem y6g:OkD Tryz.prog 227 D_zzb:=by unfold D_zzb;exact dk N227.den
def zlf (a0:Int):(List UInt8):=
 (zzb a0 ([[],[82],[71],[66,89],[66,89,66],[89,66],[89,66,89],[66,82,66],[82,87],[89]]:List (List UInt8)))
namespace N211
theorem DD:DOk Tryz.prog (Go.Ab.DD [(227,dP D_zzb)]):=ya y6g.e <| ye _
theorem dn:type_of% (@D_zzb.eq_1):=by and_intros<;>intros<;>rfl
theorem lx {p:Prop} (h:p:=by(exact lxx);first|done|fail):p:=h
theorem den (a0:Int)  : Den Tryz.prog 211 [.int .i64 a0] (.str (zlf a0)):=by
 generalize hR:zlf a0=r;unfold zlf at hR;refine di Tryz.func211 Tryz.ntmps211 Tryz.results211 ?_;intro c hL hc hk;clear hL;simp only[pars,Nat.zero_add];iterate 2 refine rS ?_
 refine AWP.ret ?_;subst hR;exact es
end N211
def D_zlf : DF
 | [x0]=>some (.str (zlf (rdI x0)),false,[wI .i64 x0])
 | _=>none
theorem y1t:OkD Tryz.prog 211 D_zlf:=by unfold D_zlf;exact dk N211.den
theorem ynt {P:List UInt8->Prop} (n:Int) (l:List (List UInt8)) (h0:P []) (h:∀ y∈l,P y):P (zzb n l):=by
 unfold zzb
 cases hb:zcf n (l.length:Int)with
 | false=>exact h0
 | true=>
  simp only[Bool.not_true,cond_false];rw[List.getD_eq_getElem?_getD];by_cases hi:n.toNat<l.length
  ·rw[List.getElem?_eq_getElem hi];exact h _ (List.getElem_mem hi)
  ·rw[List.getElem?_eq_none (by omega)];exact h0
def zzd (a0:Int):(List (List UInt8)):=
 (zmg (zzb a0 ([[],[99,97,110,32,112,105,108,108,97,114,32,115,112,97,114],[99,111,110,101,32,112,105,108,108,97,114,32,115,112,97,114],[112,105,108,108,97,114,32,115,112,97,114],[112,105,108,108,97,114,32,115,112,97,114],[112,105,108,108,97,114,32,115,112,97,114],[112,105,108,108,97,114,32,115,112,97,114],[112,105,108,108,97,114,32,115,112,97,114],[115,112,104,101,114,101,32,112,105,108,108,97,114,32,115,112,97,114],[99,97,110,32,99,111,110,101,32,112,105,108,108,97,114,32,115,112,97,114,32,115,112,104,101,114,101]]:List (List UInt8))))
namespace N213
theorem DD:DOk Tryz.prog (Go.Ab.DD [(227,dP D_zzb),(266,dP D_zmg)]):=ya y6g.e <| ya yl1.e <| ye _
theorem dn:type_of% (And.intro @D_zzb.eq_1 <| @D_zmg.eq_1):=by and_intros<;>intros<;>rfl
theorem o0 {p:Prop} (h:p:=by(first|(and_intros<;>first|exact ynt (P:=fun y=>y.length<=1048576) _ _ (by simp) (by simp)|exact ynt (P:=fun y=>∀ x∈y,x.toNat<128) _ _ (by simp) (by simp)));first|done|fail):p:=h
theorem lx {p:Prop} (h:p:=by(exact lxx);first|done|fail):p:=h
theorem den (a0:Int)  : Den Tryz.prog 213 [.int .i64 a0] (ownL 9 1 eS (zzd a0)):=by
 generalize hR:zzd a0=r;unfold zzd at hR;refine di Tryz.func213 Tryz.ntmps213 Tryz.results213 ?_;intro c hL hc hk;clear hL;simp only[pars,Nat.zero_add];iterate 2 refine rS ?_
 refine AWP.ret ?_;subst hR;exact es
end N213
def D_zzd : DF
 | [x0]=>some (ownL 9 1 eS (zzd (rdI x0)),false,[wI .i64 x0])
 | _=>none
def Dz_zzd : DF
 | [x0]=>some (ownL 9 1 eS (zzd (rdI x0)),true,[wI .i64 x0])
 | _=>none
theorem yd3:OkD Tryz.prog 213 D_zzd:=by unfold D_zzd;exact dk N213.den
theorem y8w:OkD Tryz.prog 213 Dz_zzd:=by unfold Dz_zzd;exact dk N213.den
def zmf (a0:Int):(List UInt8):=
 (zzb a0 ([[],[99,97,110],[99,111,110,101],[117,112],[98,97,115,101],[100,111,119,110],[112,111,105,110,116],[98,97,108,108,115],[98,97,108,108],[99,114,111,115,115]]:List (List UInt8)))
namespace N214
theorem DD:DOk Tryz.prog (Go.Ab.DD [(227,dP D_zzb)]):=ya y6g.e <| ye _
theorem dn:type_of% (@D_zzb.eq_1):=by and_intros<;>intros<;>rfl
theorem lx {p:Prop} (h:p:=by(exact lxx);first|done|fail):p:=h
theorem den (a0:Int)  : Den Tryz.prog 214 [.int .i64 a0] (.str (zmf a0)):=by
 generalize hR:zmf a0=r;unfold zmf at hR;refine di Tryz.func214 Tryz.ntmps214 Tryz.results214 ?_;intro c hL hc hk;clear hL;simp only[pars,Nat.zero_add];iterate 2 refine rS ?_
 refine AWP.ret ?_;subst hR;exact es
end N214
def D_zmf : DF
 | [x0]=>some (.str (zmf (rdI x0)),false,[wI .i64 x0])
 | _=>none
theorem yiv:OkD Tryz.prog 214 D_zmf:=by unfold D_zmf;exact dk N214.den
def zcd (a0:Mark):Bool:=
 (bif (a0.Kind == 0 && (a0.Colors == [] && (a0.Shape == [] && a0.Topmark == [])))then true else((((zkf a0.Kind) && (a0.Colors == (zlf a0.Kind))) && (zze (zzd a0.Kind) a0.Shape)) && ((a0.Topmark == []) || (a0.Topmark == (zmf a0.Kind)))))
namespace N135
theorem DD:DOk Tryz.prog (Go.Ab.DD [(210,dP D_zkf),(211,dP D_zlf),(212,dP D_zze),(213,dP D_zzd),(214,dP D_zmf)]):=ya yev.e <| ya y1t.e <| ya ypv.e <| ya yd3.e <| ya yiv.e <| ye _
theorem DZ:DOk Tryz.prog (Go.Ab.DD [(210,dP D_zkf),(211,dP D_zlf),(212,dP D_zze),(213,dP Dz_zzd),(214,dP D_zmf)]):=ya yev.e <| ya y1t.e <| ya ypv.e <| ya y8w.e <| ya yiv.e <| ye _
theorem dn:type_of% (And.intro @D_zkf.eq_1 <| And.intro @D_zlf.eq_1 <| And.intro @D_zze.eq_1 <| And.intro @D_zzd.eq_1 <| And.intro @D_zmf.eq_1 <| @Dz_zzd.eq_1):=by and_intros<;>intros<;>rfl
theorem den (a0:Mark) (hb0:bdMark a0):Den Tryz.prog 135 [.agg (yzf a0)] (.bool (zcd a0)):=by
 generalize hR:zcd a0=r;unfold zcd at hR;refine di Tryz.func135 Tryz.ntmps135 Tryz.results135 ?_;intro c hL hc hk;obtain⟨hL0,_⟩:=hL;have hw0:bwMark a0:=yuh a0 hL0;clear hL0;simp only[pars,Nat.zero_add];iterate 2 refine rS ?_
 refine AWP.cond rfl (fun hb => ?_) (fun hb => ?_)
 ·replace hR:=ct hR
  refine rS ?_;refine AWP.ret ?_;subst hR;exact es
 ·replace hR:=cf hR
  refine rZ 32 ?_;refine AWP.ret ?_;subst hR;exact es
end N135
def D_zcd : DF
 | [x0]=>some (.bool (zcd (rdG ycj x0)),false,[wG yzf ycj x0,bdMark (rdG ycj x0)])
 | _=>none
theorem ylo:OkD Tryz.prog 135 D_zcd:=by unfold D_zcd;exact dk N135.den
def zbg (a0:Int):Bool:=
 (decide (48<=a0) && decide (a0<=57))
namespace N209
theorem DD:DOk Tryz.prog (Go.Ab.DD []):=ye _
theorem den (a0:Int)  : Den Tryz.prog 209 [.int .u8 a0] (.bool (zbg a0)):=by
 generalize hR:zbg a0=r;unfold zbg at hR;refine di Tryz.func209 Tryz.ntmps209 Tryz.results209 ?_;intro c hL hc hk;clear hL;simp only[pars,Nat.zero_add];iterate 2 refine rS ?_
 refine AWP.ret ?_;subst hR;exact es
end N209
def D_zbg : DF
 | [x0]=>some (.bool (zbg (rdI x0)),false,[wI .u8 x0])
 | _=>none
theorem yg1:OkD Tryz.prog 209 D_zbg:=by unfold D_zbg;exact dk N209.den
def yrt (a0:(List UInt8)) (i1:Nat) (s1:Unit):Except (Bool) (Unit):=
 (bif ((!(decide (97<=((a0.getD i1 0).toNat:Int)) && decide (((a0.getD i1 0).toNat:Int)<=122))) && (((i1:Int) == 0) || (!(zbg ((a0.getD i1 0).toNat:Int)))))then .error false else .ok ())
def zke (a0:(List UInt8)):Bool:=
 (match yf (yrt a0) (a0.length-0) 0 ()with|.error e=>e|.ok s1=>((a0 != []) && (zyb (a0.length:Int) 10)))
namespace N132
theorem DD:DOk Tryz.prog (Go.Ab.DD [(110,dP D_zyb),(209,dP D_zbg)]):=ya ych.e <| ya yg1.e <| ye _
theorem dn:type_of% (And.intro @D_zyb.eq_1 <| @D_zbg.eq_1):=by and_intros<;>intros<;>rfl
theorem den (a0:(List UInt8))  : Den Tryz.prog 132 [.str a0] (.bool (zke a0)):=by
 generalize hR:zke a0=r;unfold zke at hR;refine di Tryz.func132 Tryz.ntmps132 Tryz.results132 ?_;intro c hL hc hk;obtain⟨hL0,_⟩:=hL;have hw0:a0.length<9223372036854775808:=Nat.lt_succ_of_le hL0;clear hL0;simp only[pars,Nat.zero_add];iterate 2 refine rS ?_
 refine AWP.block ?_;generalize hz1:yf (yrt a0) (a0.length-0) 0 ()=z1 at hR;refine AWP.range (yrt a0) (fun i1 s1=>⟨[(0,.str a0),(3,.int .i64 (i1:Int))],[]⟩) (fun i1 s1=>True) (a0.length) 0 () [] hz1 ot wt sm ?_;clear hz1;intro i1 s1 hi1 hW1 hz1;refine rS ?_;refine AWP.cond rfl (fun hb => ?_) (fun hb => ?_)
 ·have hlt1:i1<a0.length:=ot
  rw[yp hlt1]at hz1;simp only[yrt]at hz1;iterate 2 refine rS ?_
  refine AWP.cond rfl (fun hb => ?_) (fun hb => ?_)
  ·simp only[hb,cond_true]at hz1
   refine rS ?_;refine AWP.ret ?_;subst hz1;dsimp only at hR;subst hR;exact es
  ·simp only[hb,cond_false]at hz1
   refine rS ?_;exact⟨_,[],hlt1,wt,hz1,sm⟩
 ·obtain rfl:i1=a0.length:=ot
  rw[yq (Nat.le_refl _)]at hz1;subst hz1;dsimp only at hR;refine AWP.exit ?_;refine yb ?_;refine rS ?_;refine AWP.ret ?_;subst hR;exact es
end N132
def D_zke : DF
 | [x0]=>some (.bool (zke (rdS x0)),false,[wS x0])
 | _=>none
theorem yb3:OkD Tryz.prog 132 D_zke:=by unfold D_zke;exact dk N132.den
def ygp (a0:(List Int)) (i1:Nat) (s1:Int):Except (Bool) (Int):=
 (bif (!(zk (a0.getD i1 default) 1 9))then .error false else .ok (IntKind.wrap .i64 (s1+(a0.getD i1 default))))
def zrd (a0:(List Int)):Bool:=
 (match yf (ygp a0) (a0.length-0) 0 0 with|.error e=>e|.ok s1=>(((zyb (a0.length:Int) 4) && decide (s1<=12)) && (!(zyc a0 ([1]:List Int)))))
namespace N268
theorem DD:DOk Tryz.prog (Go.Ab.DD [(110,dP D_zyb),(111,dP D_zk),(269,dP D_zyc)]):=ya ych.e <| ya yed.e <| ya ymu.e <| ye _
theorem dn:type_of% (And.intro @D_zyb.eq_1 <| And.intro @D_zk.eq_1 <| @D_zyc.eq_1):=by and_intros<;>intros<;>rfl
theorem ol:type_of% (@zk.eq_1):=@zk.eq_1
theorem den (a0:(List Int))  : Den Tryz.prog 268 [encL 1 yw a0] (.bool (zrd a0)):=by
 generalize hR:zrd a0=r;unfold zrd at hR;refine di Tryz.func268 Tryz.ntmps268 Tryz.results268 ?_;intro c hL hc hk;obtain⟨hL0,_⟩:=hL;have hw0:a0.length<9223372036854775808:=Nat.lt_succ_of_le (yc hL0).1;clear hL0;simp only[pars,Nat.zero_add];iterate 3 refine rS ?_
 refine AWP.block ?_;generalize hz1:yf (ygp a0) (a0.length-0) 0 0=z1 at hR;refine AWP.range (ygp a0) (fun i1 s1=>⟨[(0,encL 1 yw a0),(3,.int .i64 s1),(6,encL 1 yw a0),(7,.int .i64 (a0.length:Int)),(8,.int .i64 (i1:Int))],[]⟩) (fun i1 s1=>True) (a0.length) 0 0 [] hz1 ot wt sm ?_;clear hz1;intro i1 s1 hi1 hW1 hz1;refine rS ?_;refine AWP.seq ?_;refine AWP.cond rfl (fun hb => ?_) (fun hb => ?_)
 ·have hlt1:i1<a0.length:=ot
  rw[yp hlt1]at hz1;simp only[ygp]at hz1;iterate 2 refine rS ?_
  refine AWP.cond rfl (fun hb => ?_) (fun hb => ?_)
  ·simp only[hb,cond_true]at hz1
   refine rS ?_;refine AWP.ret ?_;subst hz1;dsimp only at hR;subst hR;exact es
  ·simp only[hb,cond_false]at hz1
   iterate 2 refine rS ?_
   exact⟨_,[],hlt1,wt,hz1,sm⟩
 ·obtain rfl:i1=a0.length:=ot
  rw[yq (Nat.le_refl _)]at hz1;subst hz1;dsimp only at hR;refine AWP.exit ?_;refine yb ?_;refine rS ?_;refine AWP.ret ?_;subst hR;exact es
end N268
def D_zrd : DF
 | [x0]=>some (.bool (zrd (rdL y4b x0)),false,[wL 1 yw y4b x0])
 | _=>none
theorem y32:OkD Tryz.prog 268 D_zrd:=by unfold D_zrd;exact dk N268.den
def ywg (a0:(List UInt8)) (i1:Nat) (s1:Int):Except (Bool) (Int):=
 (bif decide ((zte [87,82,71,89] ((a0.getD i1 0).toNat:Int))<=s1)then .error false else .ok (zte [87,82,71,89] ((a0.getD i1 0).toNat:Int)))
def zic (a0:(List UInt8)):Bool:=
 (match yf (ywg a0) (a0.length-0) 0 (-1)with|.error e=>e|.ok s1=>(zk (a0.length:Int) 1 3))
namespace N215
theorem DD:DOk Tryz.prog (Go.Ab.DD [(111,dP D_zk),(267,dP D_zte)]):=ya yed.e <| ya yu0.e <| ye _
theorem dn:type_of% (And.intro @D_zk.eq_1 <| @D_zte.eq_1):=by and_intros<;>intros<;>rfl
theorem ol:type_of% (@zk.eq_1):=@zk.eq_1
theorem den (a0:(List UInt8))  : Den Tryz.prog 215 [.str a0] (.bool (zic a0)):=by
 generalize hR:zic a0=r;unfold zic at hR;refine di Tryz.func215 Tryz.ntmps215 Tryz.results215 ?_;intro c hL hc hk;obtain⟨hL0,_⟩:=hL;have hw0:a0.length<9223372036854775808:=Nat.lt_succ_of_le hL0;clear hL0;simp only[pars,Nat.zero_add];iterate 3 refine rS ?_
 refine AWP.block ?_;generalize hz1:yf (ywg a0) (a0.length-0) 0 (-1)=z1 at hR;refine AWP.range (ywg a0) (fun i1 s1=>⟨[(0,.str a0),(3,.int .i64 s1),(4,.int .i64 (i1:Int))],[]⟩) (fun i1 s1=>True) (a0.length) 0 (-1) [] hz1 ot wt sm ?_;clear hz1;intro i1 s1 hi1 hW1 hz1;refine rS ?_;refine AWP.cond rfl (fun hb => ?_) (fun hb => ?_)
 ·have hlt1:i1<a0.length:=ot
  rw[yp hlt1]at hz1;simp only[ywg]at hz1;iterate 2 refine rS ?_
  refine AWP.cond rfl (fun hb => ?_) (fun hb => ?_)
  ·simp only[hb,cond_true]at hz1
   refine rS ?_;refine AWP.ret ?_;subst hz1;dsimp only at hR;subst hR;exact es
  ·simp only[hb,cond_false]at hz1
   iterate 2 refine rS ?_
   exact⟨_,[],hlt1,wt,hz1,sm⟩
 ·obtain rfl:i1=a0.length:=ot
  rw[yq (Nat.le_refl _)]at hz1;subst hz1;dsimp only at hR;refine AWP.exit ?_;refine yb ?_;refine rS ?_;refine AWP.ret ?_;subst hR;exact es
end N215
def D_zic : DF
 | [x0]=>some (.bool (zic (rdS x0)),false,[wS x0])
 | _=>none
theorem yv2:OkD Tryz.prog 215 D_zic:=by unfold D_zic;exact dk N215.den
def zec (a0:(List UInt8)):(List UInt8):=
 (bif ((((a0.length:Int) != 1) || Op.bytesLess a0 [65]) || !(Op.bytesLess a0 [90] || a0 == [90]))then[]else([[46,45],[45,46,46,46],[45,46,45,46],[45,46,46],[46],[46,46,45,46],[45,45,46],[46,46,46,46],[46,46],[46,45,45,45],[45,46,45],[46,45,46,46],[45,45],[45,46],[45,45,45],[46,45,45,46],[45,45,46,45],[46,45,46],[46,46,46],[45],[46,46,45],[46,46,46,45],[46,45,45],[45,46,46,45],[45,46,45,45],[45,45,46,46]]:List (List UInt8)).getD ((IntKind.wrap .u8 (((a0.getD 0 0).toNat:Int)-65)).toNat) [])
namespace N270
theorem DD:DOk Tryz.prog (Go.Ab.DD []):=ye _
theorem o0 {p:Prop} (h:p:=by(first|(simp only[Bool.or_eq_false_iff,Bool.not_eq_false',Bool.or_eq_true,bne_eq_false_iff_eq]at hb;have h9:=y82 a0 hb;have h8:=hb.1.1;and_intros<;>omega));first|done|fail):p:=h
theorem den (a0:(List UInt8))  : Den Tryz.prog 270 [.str a0] (.str (zec a0)):=by
 generalize hR:zec a0=r;unfold zec at hR;refine di Tryz.func270 Tryz.ntmps270 Tryz.results270 ?_;intro c hL hc hk;obtain⟨hL0,_⟩:=hL;have hw0:a0.length<9223372036854775808:=Nat.lt_succ_of_le hL0;clear hL0;simp only[pars,Nat.zero_add];iterate 2 refine rS ?_
 refine AWP.cond rfl (fun hb => ?_) (fun hb => ?_)
 ·replace hR:=ct hR
  refine rS ?_;refine AWP.ret ?_;subst hR;exact es
 ·replace hR:=cf hR
  refine rS ?_;refine AWP.ret ?_;subst hR;exact es
end N270
def D_zec : DF
 | [x0]=>some (.str (zec (rdS x0)),false,[wS x0])
 | _=>none
theorem y3u:OkD Tryz.prog 270 D_zec:=by unfold D_zec;exact dk N270.den
def zqb (a0:Character):Bool:=
 (bif (a0.Kind == 1)then(((a0.Group.length:Int) == 0) && (a0.Letter == []))else(bif (a0.Kind == 3)then(((a0.Group.length:Int) == 0) && (a0.Letter == []))else(bif (a0.Kind == 2)then((a0.Letter == []) && (zrd a0.Group))else(bif (a0.Kind == 4)then((a0.Letter == []) && (zrd a0.Group))else(bif (a0.Kind == 5)then((a0.Letter == []) && (zrd a0.Group))else(bif (a0.Kind == 6)then(bif (a0.Letter == [])then(((a0.Group.length:Int) == 0) || (((a0.Group.length:Int) == 1) && (zk (a0.Group.getD 0 default) 2 9)))else((a0.Letter == [76]) && (zyc a0.Group ([6]:List Int))))else(bif (a0.Kind == 7)then(bif (a0.Letter == [])then(((a0.Group.length:Int) == 0) || (((a0.Group.length:Int) == 1) && (zk (a0.Group.getD 0 default) 2 9)))else((a0.Letter == [76]) && (zyc a0.Group ([6]:List Int))))else(bif (a0.Kind == 8)then(((zec a0.Letter) != []) && ((a0.Group.length:Int) == 0))else false))))))))
namespace N216
theorem DD:DOk Tryz.prog (Go.Ab.DD [(111,dP D_zk),(268,dP D_zrd),(269,dP D_zyc),(270,dP D_zec)]):=ya yed.e <| ya y32.e <| ya ymu.e <| ya y3u.e <| ye _
theorem dn:type_of% (And.intro @D_zk.eq_1 <| And.intro @D_zrd.eq_1 <| And.intro @D_zyc.eq_1 <| @D_zec.eq_1):=by and_intros<;>intros<;>rfl
theorem ol:type_of% (@zk.eq_1):=@zk.eq_1
theorem den (a0:Character)  : Den Tryz.prog 216 [.agg (yi a0)] (.bool (zqb a0)):=by
 generalize hR:zqb a0=r;unfold zqb at hR;refine di Tryz.func216 Tryz.ntmps216 Tryz.results216 ?_;intro c hL hc hk;obtain⟨hL0,_⟩:=hL;have hw0:bwCharacter a0:=yu a0 hL0;clear hL0;simp only[pars,Nat.zero_add];iterate 3 refine rS ?_
 refine AWP.cond rfl (fun hb => ?_) (fun hb => ?_)
 ·replace hR:=ct hR
  refine AWP.skip ?_;refine AWP.cond rfl (fun hb => ?_) (fun hb => ?_)
  ·refine rS ?_
   refine AWP.ret ?_;subst hR;exact es
  ·exfalso;simp_all
 ·replace hR:=cf hR
  refine rS ?_;refine AWP.cond rfl (fun hb => ?_) (fun hb => ?_)
  ·replace hR:=ct hR
   refine rS ?_;refine AWP.ret ?_;subst hR;exact es
  ·replace hR:=cf hR
   refine rS ?_;refine AWP.cond rfl (fun hb => ?_) (fun hb => ?_)
   ·replace hR:=ct hR
    refine AWP.skip ?_;refine AWP.cond rfl (fun hb => ?_) (fun hb => ?_)
    ·refine rS ?_
     refine AWP.ret ?_;subst hR;exact es
    ·exfalso;simp_all
   ·replace hR:=cf hR
    refine rS ?_;refine AWP.cond rfl (fun hb => ?_) (fun hb => ?_)
    ·replace hR:=ct hR
     refine AWP.skip ?_;refine AWP.cond rfl (fun hb => ?_) (fun hb => ?_)
     ·refine rS ?_
      refine AWP.ret ?_;subst hR;exact es
     ·exfalso;simp_all
    ·replace hR:=cf hR
     refine rS ?_;refine AWP.cond rfl (fun hb => ?_) (fun hb => ?_)
     ·replace hR:=ct hR
      refine rS ?_;refine AWP.ret ?_;subst hR;exact es
     ·replace hR:=cf hR
      refine rS ?_;refine AWP.cond rfl (fun hb => ?_) (fun hb => ?_)
      ·replace hR:=ct hR
       refine AWP.skip ?_;refine AWP.cond rfl (fun hb => ?_) (fun hb => ?_)
       ·refine rS ?_
        refine AWP.cond rfl (fun hb => ?_) (fun hb => ?_)
        ·replace hR:=ct hR
         refine rS ?_;refine AWP.ret ?_;subst hR;exact es
        ·replace hR:=cf hR
         refine rS ?_;refine AWP.ret ?_;subst hR;exact es
       ·exfalso;simp_all
      ·replace hR:=cf hR
       refine rS ?_;refine AWP.cond rfl (fun hb => ?_) (fun hb => ?_)
       ·replace hR:=ct hR
        refine rS ?_;refine AWP.cond rfl (fun hb => ?_) (fun hb => ?_)
        ·replace hR:=ct hR
         refine rS ?_;refine AWP.ret ?_;subst hR;exact es
        ·replace hR:=cf hR
         refine rS ?_;refine AWP.ret ?_;subst hR;exact es
       ·replace hR:=cf hR
        refine rS ?_;refine AWP.cond rfl (fun hb => ?_) (fun hb => ?_)
        ·replace hR:=ct hR
         refine rS ?_;refine AWP.ret ?_;subst hR;exact es
        ·replace hR:=cf hR
         refine rS ?_;refine AWP.ret ?_;subst hR;exact es
end N216
def D_zqb : DF
 | [x0]=>some (.bool (zqb (rdG yd x0)),false,[wG yi yd x0])
 | _=>none
theorem yd1:OkD Tryz.prog 216 D_zqb:=by unfold D_zqb;exact dk N216.den
theorem yhj (a:List UInt8):zec a=if a.length=1/\65<=(a.getD 0 0).toNat/\(a.getD 0 0).toNat<=90 then y6c.getD ((a.getD 0 0).toNat-65) []else[]:=by
 unfold zec;by_cases h1:a.length=1
 ·have c1:((a.length:Int) != 1)=false:=by rw[h1];rfl
  rw[c1,yqh a 65 h1,yqh a 90 h1,yay a 90 h1];have e1:(65:UInt8).toNat=65:=rfl;have e2:(90:UInt8).toNat=90:=rfl;rw[e1,e2];by_cases h2:65<=(a.getD 0 0).toNat/\(a.getD 0 0).toNat<=90
  ·rw[if_pos ⟨h1,h2⟩,decide_eq_false (by omega)]
   have c2:(decide ((a.getD 0 0).toNat<90) || decide ((a.getD 0 0).toNat=90))=true:=by
    rw[Bool.or_eq_true,decide_eq_true_eq,decide_eq_true_eq];omega
   rw[c2];simp only[Bool.or_self,Bool.not_true,cond_false];rw[y8k _ (by omega) (by omega),show((((a.getD 0 0).toNat:Int)-65).toNat)=(a.getD 0 0).toNat-65 by omega];rfl
  ·rw[if_neg (fun h=>h2 h.2)]
   by_cases h3:(a.getD 0 0).toNat<65
   ·rw[decide_eq_true h3];rfl
   ·have c2:(decide ((a.getD 0 0).toNat<90) || decide ((a.getD 0 0).toNat=90))=false:=by
     rw[decide_eq_false (by omega),decide_eq_false (by omega)];rfl
    rw[c2,decide_eq_false h3];rfl
 ·have c1:((a.length:Int) != 1)=true:=by rw[bne_iff_ne];omega
  rw[c1,if_neg (fun h=>h1 h.1)];rfl
theorem y0y (a:List UInt8):(zec a).length<=4:=by
 rw[yhj];split
 ·exact y6k _
 ·simp
theorem y8s (a:List UInt8):∀ x∈zec a,x.toNat<128:=by
 intro x hx;rw[yhj]at hx;split at hx
 ·rw[List.getD_eq_getElem?_getD]at hx
  cases h:y6c[(a.getD 0 0).toNat-65]? with
  | none=>rw[h]at hx;simp at hx
  | some y=>
   rw[h]at hx;rcases(y0g y (List.mem_of_getElem? h)).2.2 x hx with e|e<;>subst e<;>decide
 ·simp at hx
def zng (a0:Int):Bool:=
 ((a0 == 6) || (a0 == 7))
namespace N271
theorem DD:DOk Tryz.prog (Go.Ab.DD []):=ye _
theorem den (a0:Int)  : Den Tryz.prog 271 [.int .i64 a0] (.bool (zng a0)):=by
 generalize hR:zng a0=r;unfold zng at hR;refine di Tryz.func271 Tryz.ntmps271 Tryz.results271 ?_;intro c hL hc hk;clear hL;simp only[pars,Nat.zero_add];iterate 2 refine rS ?_
 refine AWP.ret ?_;subst hR;exact es
end N271
def D_zng : DF
 | [x0]=>some (.bool (zng (rdI x0)),false,[wI .i64 x0])
 | _=>none
theorem yf3:OkD Tryz.prog 271 D_zng:=by unfold D_zng;exact dk N271.den
def zid (a0:Character):Bool:=
 ((a0.Kind == 1) || ((zng a0.Kind) && ((a0.Group.length:Int) == 0)))
namespace N217
theorem DD:DOk Tryz.prog (Go.Ab.DD [(271,dP D_zng)]):=ya yf3.e <| ye _
theorem dn:type_of% (@D_zng.eq_1):=by and_intros<;>intros<;>rfl
theorem den (a0:Character)  : Den Tryz.prog 217 [.agg (yi a0)] (.bool (zid a0)):=by
 generalize hR:zid a0=r;unfold zid at hR;refine di Tryz.func217 Tryz.ntmps217 Tryz.results217 ?_;intro c hL hc hk;obtain⟨hL0,_⟩:=hL;have hw0:bwCharacter a0:=yu a0 hL0;clear hL0;simp only[pars,Nat.zero_add];iterate 2 refine rS ?_
 refine AWP.ret ?_;subst hR;exact es
end N217
def D_zid : DF
 | [x0]=>some (.bool (zid (rdG yd x0)),false,[wG yi yd x0])
 | _=>none
theorem ynu:OkD Tryz.prog 217 D_zid:=by unfold D_zid;exact dk N217.den
def zfb (a0:Int):(Int×Int×Int):=
 (bif (a0 == 2)then(10,10,15)else(bif (a0 == 4)then(5,15,20)else(bif (a0 == 5)then(20,20,25)else(bif (a0 == 6)then(5,5,20)else(bif (a0 == 7)then(2,3,10)else(bif (a0 == 8)then(5,5,30)else(0,0,0)))))))
namespace N272
theorem DD:DOk Tryz.prog (Go.Ab.DD []):=ye _
theorem den (a0:Int)  : Den Tryz.prog 272 [.int .i64 a0] (.tup [.int .i64 ((zfb a0).1),.int .i64 ((zfb a0).2.1),.int .i64 ((zfb a0).2.2)]):=by
 generalize hR:zfb a0=r;unfold zfb at hR;refine di Tryz.func272 Tryz.ntmps272 Tryz.results272 ?_;intro c hL hc hk;clear hL;simp only[pars,Nat.zero_add];iterate 3 refine rS ?_
 refine AWP.cond rfl (fun hb => ?_) (fun hb => ?_)
 ·replace hR:=ct hR
  refine rS ?_;refine AWP.ret ?_;subst hR;exact es
 ·replace hR:=cf hR
  refine rS ?_;refine AWP.cond rfl (fun hb => ?_) (fun hb => ?_)
  ·replace hR:=ct hR
   refine rS ?_;refine AWP.ret ?_;subst hR;exact es
  ·replace hR:=cf hR
   refine rS ?_;refine AWP.cond rfl (fun hb => ?_) (fun hb => ?_)
   ·replace hR:=ct hR
    refine rS ?_;refine AWP.ret ?_;subst hR;exact es
   ·replace hR:=cf hR
    refine rS ?_;refine AWP.cond rfl (fun hb => ?_) (fun hb => ?_)
    ·replace hR:=ct hR
     refine rS ?_;refine AWP.ret ?_;subst hR;exact es
    ·replace hR:=cf hR
     refine rS ?_;refine AWP.cond rfl (fun hb => ?_) (fun hb => ?_)
     ·replace hR:=ct hR
      refine rS ?_;refine AWP.ret ?_;subst hR;exact es
     ·replace hR:=cf hR
      refine rS ?_;refine AWP.cond rfl (fun hb => ?_) (fun hb => ?_)
      ·replace hR:=ct hR
       refine rS ?_;refine AWP.ret ?_;subst hR;exact es
      ·replace hR:=cf hR
       refine rS ?_;refine AWP.ret ?_;subst hR;exact es
end N272
def D_zfb : DF
 | [x0]=>some (.tup [.int .i64 ((zfb (rdI x0)).1),.int .i64 ((zfb (rdI x0)).2.1),.int .i64 ((zfb (rdI x0)).2.2)],false,[wI .i64 x0])
 | _=>none
theorem yvu:OkD Tryz.prog 272 D_zfb:=by unfold D_zfb;exact dk N272.den
def yav (a0:(List Int)) (i1:Nat) (s1:Int):Except (Int) (Int):=
 .ok (IntKind.wrap .i64 (s1+(a0.getD i1 default)))
def zqe (a0:(List Int)):Int:=
 (match yf (yav a0) (a0.length-0) 0 0 with|.error e=>e|.ok s1=>s1)
namespace N273
theorem DD:DOk Tryz.prog (Go.Ab.DD []):=ye _
theorem den (a0:(List Int))  : Den Tryz.prog 273 [encL 1 yw a0] (.int .i64 (zqe a0)):=by
 generalize hR:zqe a0=r;unfold zqe at hR;refine di Tryz.func273 Tryz.ntmps273 Tryz.results273 ?_;intro c hL hc hk;obtain⟨hL0,_⟩:=hL;have hw0:a0.length<9223372036854775808:=Nat.lt_succ_of_le (yc hL0).1;clear hL0;simp only[pars,Nat.zero_add];iterate 3 refine rS ?_
 refine AWP.block ?_;generalize hz1:yf (yav a0) (a0.length-0) 0 0=z1 at hR;refine AWP.range (yav a0) (fun i1 s1=>⟨[(3,.int .i64 s1),(6,encL 1 yw a0),(7,.int .i64 (a0.length:Int)),(8,.int .i64 (i1:Int))],[]⟩) (fun i1 s1=>True) (a0.length) 0 0 [] hz1 ot wt sm ?_;clear hz1;intro i1 s1 hi1 hW1 hz1;refine rS ?_;refine AWP.seq ?_;refine AWP.cond rfl (fun hb => ?_) (fun hb => ?_)
 ·have hlt1:i1<a0.length:=ot
  rw[yp hlt1]at hz1;simp only[yav]at hz1;iterate 3 refine rS ?_
  exact⟨_,[],hlt1,wt,hz1,sm⟩
 ·obtain rfl:i1=a0.length:=ot
  rw[yq (Nat.le_refl _)]at hz1;subst hz1;dsimp only at hR;refine AWP.exit ?_;refine yb ?_;refine rS ?_;refine AWP.ret ?_;subst hR;exact es
end N273
def D_zqe : DF
 | [x0]=>some (.int .i64 (zqe (rdL y4b x0)),false,[wL 1 yw y4b x0])
 | _=>none
theorem ye1:OkD Tryz.prog 273 D_zqe:=by unfold D_zqe;exact dk N273.den
def yup (a0:(List Sector)) (i1:Nat) (s1:List UInt8) (i2:Nat) (s2:List UInt8):Except ((List UInt8)) (List UInt8):=
 (bif ((((a0.getD i2 default).Color) == (([87,82,71,89].take ((IntKind.wrap .i64 ((i1:Int)+1)).toNat)).drop i1)) && (!(zhc s2 (([87,82,71,89].take ((IntKind.wrap .i64 ((i1:Int)+1)).toNat)).drop i1))))then .ok (s2++(([87,82,71,89].take ((IntKind.wrap .i64 ((i1:Int)+1)).toNat)).drop i1))else .ok s2)
def ytm (a0:(List Sector)) (i1:Nat) (s1:List UInt8):Except ((List UInt8)) (List UInt8):=
 (match yf (yup a0 i1 s1) (a0.length-0) 0 s1 with|.error e=>.error e|.ok s2=>.ok s2)
def zzc (a0:(List Sector)):(List UInt8):=
 (match yf (ytm a0) ([87,82,71,89].length-0) 0 []with|.error e=>e|.ok s1=>s1)
namespace N140
theorem DD:DOk Tryz.prog (Go.Ab.DD [(222,dP D_zhc)]):=ya ysv.e <| ye _
theorem dn:type_of% (@D_zhc.eq_1):=by and_intros<;>intros<;>rfl
theorem o0 {p:Prop} (h:p:=by(first|(have h4:=hq4 i1;have h1:=hW1;have h2:=hW2;and_intros<;>first|omega|exact yru (by omega)));first|done|fail):p:=h
theorem den (a0:(List Sector)) (hb0:a0.length<1099511627776) (hb1:∀ v∈a0,bdSector v):Den Tryz.prog 140 [encL 3 yl a0] (.str (zzc a0)):=by
 generalize hR:zzc a0=r;unfold zzc at hR;refine di Tryz.func140 Tryz.ntmps140 Tryz.results140 ?_;intro c hL hc hk;obtain⟨hL0,_⟩:=hL;have hw0:a0.length<9223372036854775808:=Nat.lt_succ_of_le (yc hL0).1;have hw1:∀ v∈a0,bwSector v:=fun v hv=>y9 v ((yc hL0).2 v hv)
 clear hL0;simp only[pars,Nat.zero_add];have hq4:=yw3;iterate 3 refine rS ?_
 refine AWP.block ?_;generalize hz1:yf (ytm a0) ([87,82,71,89].length-0) 0 []=z1 at hR;refine AWP.range (ytm a0) (fun i1 s1=>⟨[(0,encL 3 yl a0),(3,.str s1),(8,.ptr 0 0)],[.it [87,82,71,89] i1 (decide (i1<[87,82,71,89].length))]⟩) (fun i1 s1=>s1.length<=1099511627776 * i1) ([87,82,71,89].length) 0 [] [0] hz1 ot (by(simp)) sm ?_;clear hz1;intro i1 s1 hi1 hW1 hz1;refine AWP.seq ?_;by_cases hlt1:i1<[87,82,71,89].length
 ·rw[yp hlt1]at hz1;simp only[ytm]at hz1
  rw[decide_eq_true hlt1];refine rS ?_;refine AWP.seq ?_;refine AWP.cond rfl (fun hb => ?_) (fun hb=>by cases hb);iterate 2 refine rS ?_
  refine AWP.block ?_;generalize hz2:yf (yup a0 i1 s1) (a0.length-0) 0 s1=z2 at hz1;refine AWP.range (yup a0 i1 s1) (fun i2 s2=>⟨[(0,encL 3 yl a0),(3,.str s2),(4,.int .i64 (i1:Int)),(8,.ptr 0 0),(12,encL 3 yl a0),(13,.int .i64 (a0.length:Int)),(14,.int .i64 (i2:Int))],[.it [87,82,71,89] (i1+1) (decide (i1+1<[87,82,71,89].length))]⟩) (fun i2 s2=>s2.length<=1099511627776 * i1+i2) (a0.length) 0 s1 [0] hz2 ot (by(exact hW1)) sm ?_;clear hz2;intro i2 s2 hi2 hW2 hz2;refine rS ?_;refine AWP.seq ?_;refine AWP.cond rfl (fun hb => ?_) (fun hb => ?_)
  ·have hlt2:i2<a0.length:=ot
   rw[yp hlt2]at hz2;simp only[yup]at hz2;iterate 3 refine rS ?_
   refine AWP.cond rfl (fun hb => ?_) (fun hb => ?_)
   ·simp only[hb,cond_true]at hz2
    iterate 2 refine rS ?_
    exact⟨_,[0],hlt2,by(have h4:=hq4 i1;have h2:=hW2;simp only[ln]at *;omega),hz2,sm⟩
   ·simp only[hb,cond_false]at hz2
    refine rS ?_;exact⟨_,[0],hlt2,by(have h4:=hq4 i1;have h2:=hW2;simp only[ln]at *;omega),hz2,sm⟩
  ·obtain rfl:i2=a0.length:=ot
   rw[yq (Nat.le_refl _)]at hz2;subst hz2;dsimp only at hz1;refine AWP.exit ?_;refine yb ?_;exact⟨_,[0],hlt1,by(have h1:=hW1;omega),hz1,sm⟩
 ·obtain rfl:i1=[87,82,71,89].length:=by omega
  rw[yq (Nat.le_refl _)]at hz1;subst hz1;dsimp only at hR;simp only[Nat.lt_irrefl,decide_false];refine rS ?_;refine AWP.seq ?_;refine AWP.cond rfl (fun hb=>by cases hb) (fun hb => ?_);refine AWP.exit ?_;refine yb ?_;refine rS ?_;refine AWP.ret ?_;subst hR;exact es
end N140
def D_zzc : DF
 | [x0]=>some (.str (zzc (rdL yv x0)),false,[wL 3 yl yv x0,(rdL yv x0).length<1099511627776,∀ v∈(rdL yv x0),bdSector v])
 | _=>none
theorem yz0:OkD Tryz.prog 140 D_zzc:=by unfold D_zzc;exact dk N140.den
def yhm (a0:(List Int)) (a1:(List Int)) (i1:Nat) (s1:Unit):Except (Bool) (Unit):=
 (bif ((a0.getD i1 default) != (a1.getD i1 default))then .error false else .ok ())
def zae (a0:(List Int)) (a1:(List Int)):Bool:=
 (bif ((a0.length:Int) != (a1.length:Int))then false else(match yf (yhm a0 a1) (a0.length-0) 0 ()with|.error e=>e|.ok s1=>true))
namespace N170
theorem DD:DOk Tryz.prog (Go.Ab.DD []):=ye _
theorem den (a0:(List Int)) (a1:(List Int))  : Den Tryz.prog 170 [encL 1 yw a0,encL 1 yw a1] (.bool (zae a0 a1)):=by
 generalize hR:zae a0 a1=r;unfold zae at hR;refine di Tryz.func170 Tryz.ntmps170 Tryz.results170 ?_;intro c hL hc hk;obtain⟨hL0,hL1,_⟩:=hL;have hw0:a0.length<9223372036854775808:=Nat.lt_succ_of_le (yc hL0).1;have hw1:a1.length<9223372036854775808:=Nat.lt_succ_of_le (yc hL1).1;clear hL0 hL1;simp only[pars,Nat.zero_add];iterate 2 refine rS ?_
 refine AWP.cond rfl (fun hb => ?_) (fun hb => ?_)
 ·replace hR:=ct hR
  refine rS ?_;refine AWP.ret ?_;subst hR;exact es
 ·replace hR:=cf hR
  refine rS ?_;refine AWP.block ?_;generalize hz1:yf (yhm a0 a1) (a0.length-0) 0 ()=z1 at hR;refine AWP.range (yhm a0 a1) (fun i1 s1=>⟨[(0,encL 1 yw a0),(1,encL 1 yw a1),(12,.int .i64 (a0.length:Int)),(13,.int .i64 (i1:Int))],[]⟩) (fun i1 s1=>True) (a0.length) 0 () [] hz1 ot wt sm ?_;clear hz1;intro i1 s1 hi1 hW1 hz1;refine rS ?_;refine AWP.seq ?_;refine AWP.cond rfl (fun hb => ?_) (fun hb => ?_)
  ·have hlt1:i1<a0.length:=ot
   rw[yp hlt1]at hz1;simp only[yhm]at hz1;refine rS ?_;refine rD 8 ?_;refine AWP.cond rfl (fun hb => ?_) (fun hb => ?_)
   ·simp only[hb,cond_true]at hz1
    refine rS ?_;refine AWP.ret ?_;subst hz1;dsimp only at hR;subst hR;exact es
   ·simp only[hb,cond_false]at hz1
    refine rS ?_;exact⟨_,[],hlt1,wt,hz1,sm⟩
  ·obtain rfl:i1=a0.length:=ot
   rw[yq (Nat.le_refl _)]at hz1;subst hz1;dsimp only at hR;refine AWP.exit ?_;refine yb ?_;refine rS ?_;refine AWP.ret ?_;subst hR;exact es
end N170
def D_zae : DF
 | [x0,x1]=>some (.bool (zae (rdL y4b x0) (rdL y4b x1)),false,[wL 1 yw y4b x0,wL 1 yw y4b x1])
 | _=>none
theorem y23:OkD Tryz.prog 170 D_zae:=by unfold D_zae;exact dk N170.den
theorem y3f (a b:List Int):zae a b=decide (a=b):=by
 unfold zae;by_cases hl:a.length=b.length
 ·have h1:((a.length:Int) != (b.length:Int))=false:=by simp[hl]
  rw[h1,cond_false,ykd (b:=yhm a b) (fun j => !decide (a.getD j default=b.getD j default)) false (fun j u _ _=>by simp only[yhm,ned])];simp only[Nat.sub_zero,Nat.zero_add];rw[y6x a b hl];by_cases h:a=b<;>simp[h]
 ·have h1:((a.length:Int) != (b.length:Int))=true:=by simp;omega
  have h2:¬ a=b:=fun e=>hl (by rw[e])
  rw[h1,cond_true,decide_eq_false h2]
def zcg (a0:Int):Bool:=
 (zk a0 1 9999)
namespace N107
theorem DD:DOk Tryz.prog (Go.Ab.DD [(111,dP D_zk)]):=ya yed.e <| ye _
theorem dn:type_of% (@D_zk.eq_1):=by and_intros<;>intros<;>rfl
theorem ol:type_of% (@zk.eq_1):=@zk.eq_1
theorem den (a0:Int)  : Den Tryz.prog 107 [.int .i64 a0] (.bool (zcg a0)):=by
 generalize hR:zcg a0=r;unfold zcg at hR;refine di Tryz.func107 Tryz.ntmps107 Tryz.results107 ?_;intro c hL hc hk;clear hL;simp only[pars,Nat.zero_add];iterate 2 refine rS ?_
 refine AWP.ret ?_;subst hR;exact es
end N107
def D_zcg : DF
 | [x0]=>some (.bool (zcg (rdI x0)),false,[wI .i64 x0])
 | _=>none
theorem yo3:OkD Tryz.prog 107 D_zcg:=by unfold D_zcg;exact dk N107.den
def zld (a0:Point):Bool:=
 ((zk a0.X 0 200000) && (zk a0.Y 0 200000))
namespace N133
theorem DD:DOk Tryz.prog (Go.Ab.DD [(111,dP D_zk)]):=ya yed.e <| ye _
theorem dn:type_of% (@D_zk.eq_1):=by and_intros<;>intros<;>rfl
theorem ol:type_of% (@zk.eq_1):=@zk.eq_1
theorem den (a0:Point)  : Den Tryz.prog 133 [.agg (yve a0)] (.bool (zld a0)):=by
 generalize hR:zld a0=r;unfold zld at hR;refine di Tryz.func133 Tryz.ntmps133 Tryz.results133 ?_;intro c hL hc hk;clear hL;simp only[pars,Nat.zero_add];iterate 2 refine rS ?_
 refine AWP.ret ?_;subst hR;exact es
end N133
def D_zld : DF
 | [x0]=>some (.bool (zld (rdG yoi x0)),false,[wG yve yoi x0])
 | _=>none
theorem yun:OkD Tryz.prog 133 D_zld:=by unfold D_zld;exact dk N133.den
def zdg (a0:Int):Bool:=
 (zk a0 0 3000)
namespace N134
theorem DD:DOk Tryz.prog (Go.Ab.DD [(111,dP D_zk)]):=ya yed.e <| ye _
theorem dn:type_of% (@D_zk.eq_1):=by and_intros<;>intros<;>rfl
theorem ol:type_of% (@zk.eq_1):=@zk.eq_1
theorem den (a0:Int)  : Den Tryz.prog 134 [.int .i64 a0] (.bool (zdg a0)):=by
 generalize hR:zdg a0=r;unfold zdg at hR;refine di Tryz.func134 Tryz.ntmps134 Tryz.results134 ?_;intro c hL hc hk;clear hL;simp only[pars,Nat.zero_add];iterate 2 refine rS ?_
 refine AWP.ret ?_;subst hR;exact es
end N134
def D_zdg : DF
 | [x0]=>some (.bool (zdg (rdI x0)),false,[wI .i64 x0])
 | _=>none
theorem yw0:OkD Tryz.prog 134 D_zdg:=by unfold D_zdg;exact dk N134.den
def zve (a0:Character) (a1:Character):Bool:=
 (((((a0.Kind == a1.Kind) && (zae a0.Group a1.Group)) && (a0.Letter == a1.Letter)) && (a0.Colors == a1.Colors)) && (a0.Period == a1.Period))
namespace N86
theorem DD:DOk Tryz.prog (Go.Ab.DD [(170,dP D_zae)]):=ya y23.e <| ye _
theorem dn:type_of% (@D_zae.eq_1):=by and_intros<;>intros<;>rfl
theorem den (a0:Character) (a1:Character)  : Den Tryz.prog 86 [.agg (yi a0),.agg (yi a1)] (.bool (zve a0 a1)):=by
 generalize hR:zve a0 a1=r;unfold zve at hR;refine di Tryz.func86 Tryz.ntmps86 Tryz.results86 ?_;intro c hL hc hk;obtain⟨hL0,hL1,_⟩:=hL;have hw0:bwCharacter a0:=yu a0 hL0;have hw1:bwCharacter a1:=yu a1 hL1;clear hL0 hL1;simp only[pars,Nat.zero_add];iterate 2 refine rS ?_
 refine AWP.ret ?_;subst hR;exact es
end N86
def D_zve : DF
 | [x0,x1]=>some (.bool (zve (rdG yd x0) (rdG yd x1)),false,[wG yi yd x0,wG yi yd x1])
 | _=>none
theorem yrv:OkD Tryz.prog 86 D_zve:=by unfold D_zve;exact dk N86.den
def zuf (a0:Aid):Bool:=
 (((zve a0.Light ({ Kind:=0,Group:=[],Letter:=[],Colors:=[],Period:=0:Character })) && ((a0.Sectors.length:Int) == 0)) && (a0.Intensity == 0))
namespace N136
theorem DD:DOk Tryz.prog (Go.Ab.DD [(86,dP D_zve)]):=ya yrv.e <| ye _
theorem dn:type_of% (@D_zve.eq_1):=by and_intros<;>intros<;>rfl
theorem den (a0:Aid)  : Den Tryz.prog 136 [.agg (eAid a0)] (.bool (zuf a0)):=by
 generalize hR:zuf a0=r;unfold zuf at hR;refine di Tryz.func136 Tryz.ntmps136 Tryz.results136 ?_;intro c hL hc hk;obtain⟨hL0,_⟩:=hL;have hw0:bwAid a0:=y5 a0 hL0;clear hL0;simp only[pars,Nat.zero_add];iterate 2 refine rS ?_
 refine AWP.ret ?_;subst hR;exact es
end N136
def D_zuf : DF
 | [x0]=>some (.bool (zuf (rdG dAid x0)),false,[wG eAid dAid x0])
 | _=>none
theorem yp2:OkD Tryz.prog 136 D_zuf:=by unfold D_zuf;exact dk N136.den
def zvf (a0:Int):Bool:=
 (zk a0 1 100000000)
namespace N138
theorem DD:DOk Tryz.prog (Go.Ab.DD [(111,dP D_zk)]):=ya yed.e <| ye _
theorem dn:type_of% (@D_zk.eq_1):=by and_intros<;>intros<;>rfl
theorem ol:type_of% (@zk.eq_1):=@zk.eq_1
theorem den (a0:Int)  : Den Tryz.prog 138 [.int .i64 a0] (.bool (zvf a0)):=by
 generalize hR:zvf a0=r;unfold zvf at hR;refine di Tryz.func138 Tryz.ntmps138 Tryz.results138 ?_;intro c hL hc hk;clear hL;simp only[pars,Nat.zero_add];iterate 2 refine rS ?_
 refine AWP.ret ?_;subst hR;exact es
end N138
def D_zvf : DF
 | [x0]=>some (.bool (zvf (rdI x0)),false,[wI .i64 x0])
 | _=>none
theorem ym2:OkD Tryz.prog 138 D_zvf:=by unfold D_zvf;exact dk N138.den
def zqc (a0:Int):(List UInt8):=
 (zzb a0 ([[],[70],[79,99],[73,115,111],[70,108],[76,70,108],[81],[86,81],[77,111]]:List (List UInt8)))
namespace N223
theorem DD:DOk Tryz.prog (Go.Ab.DD [(227,dP D_zzb)]):=ya y6g.e <| ye _
theorem dn:type_of% (@D_zzb.eq_1):=by and_intros<;>intros<;>rfl
theorem lx {p:Prop} (h:p:=by(exact lxx);first|done|fail):p:=h
theorem den (a0:Int)  : Den Tryz.prog 223 [.int .i64 a0] (.str (zqc a0)):=by
 generalize hR:zqc a0=r;unfold zqc at hR;refine di Tryz.func223 Tryz.ntmps223 Tryz.results223 ?_;intro c hL hc hk;clear hL;simp only[pars,Nat.zero_add];iterate 2 refine rS ?_
 refine AWP.ret ?_;subst hR;exact es
end N223
def D_zqc : DF
 | [x0]=>some (.str (zqc (rdI x0)),false,[wI .i64 x0])
 | _=>none
theorem yvt:OkD Tryz.prog 223 D_zqc:=by unfold D_zqc;exact dk N223.den
end Go.Ab
