/- A part of a proof: walks of functions and lemmas of our own. No conditions. -/
import Derived.Test.YtopoomikfjodkaaGreatDoorUAl
import Derived.Test.YtopoomikfjodkaaGreatDoorUAn
import Derived.Test.YtopoomikfjodkaaGreatDoorUAo
import Derived.Test.YtopoomikfjodkaaGreatDoorUAi
set_option linter.unusedSectionVars false
set_option linter.unusedVariables false
set_option linter.unusedSimpArgs false
set_option maxHeartbeats 1000000
namespace Go.Ab
open Go Go.Proofs
def zn (a0:Int):(List UInt8):=
 (znf a0 10)
namespace N107
theorem DD:DOk Tryz.prog (Go.Ab.DD [(219,dP D_znf)]):=ya yyz.e <| ye _
theorem dn:type_of% (@D_znf.eq_1):=by and_intros<;>intros<;>rfl
theorem den (a0:Int) (hp0 : -9223372036854775808≤a0) (hp1:a0≤9223372036854775807):Den Tryz.prog 107 [.int .i64 a0] (.str (zn a0)):=by
 generalize hR:zn a0=r
 unfold zn at hR
 refine di Tryz.func107 Tryz.ntmps107 Tryz.results107 ?_
 intro c hL hc hk
 clear hL
 simp only[pars,Nat.zero_add]
 iterate 2 refine rS ?_
 refine AWP.ret ?_
 subst hR
 exact es
end N107
def D_zn : DF
 | [x0]=>some (.str (zn (rdI x0)),false,[wI .i64 x0,-9223372036854775808≤(rdI x0),(rdI x0)≤9223372036854775807])
 | _=>none
theorem yjj:OkD Tryz.prog 107 D_zn:=by unfold D_zn;exact dk N107.den
end Go.Ab

namespace Go.Ab
open Go Go.Proofs
theorem ylo (n:Int):(Go.Lib.itoa n).length≤n.natAbs+2:=by
 unfold Go.Lib.itoa
 split
 ·have:=ysc n.natAbs
  simp only[List.length_cons]
  omega
 ·have:=ysc n.toNat
  omega
theorem yhy (n:Int):zn n=Go.Lib.itoa n:=rfl
theorem yqe (n:Int):(zn n).length≤n.natAbs+2:=ylo n
end Go.Ab

namespace Go.Ab
open Go Go.Proofs
def zrb (a0:Int) (a1:Int):Bool:=
 decide (a0≤a1)
namespace N160
theorem DD:DOk Tryz.prog (Go.Ab.DD []):=ye _
theorem den (a0:Int) (a1:Int)  : Den Tryz.prog 160 [.int .i64 a0,.int .i64 a1] (.bool (zrb a0 a1)):=by
 generalize hR:zrb a0 a1=r
 unfold zrb at hR
 refine di Tryz.func160 Tryz.ntmps160 Tryz.results160 ?_
 intro c hL hc hk
 clear hL
 simp only[pars,Nat.zero_add]
 iterate 2 refine rS ?_
 refine AWP.ret ?_
 subst hR
 exact es
end N160
def D_zrb : DF
 | [x0,x1]=>some (.bool (zrb (rdI x0) (rdI x1)),false,[wI .i64 x0,wI .i64 x1])
 | _=>none
theorem ygi:OkD Tryz.prog 160 D_zrb:=by unfold D_zrb;exact dk N160.den
end Go.Ab

namespace Go.Ab
open Go Go.Proofs
def zze (a0:(List UInt8)):Bool:=
 (((a0.length:Int) == 1) && (zmb [87,82,71,89] a0))
namespace N334
theorem DD:DOk Tryz.prog (Go.Ab.DD [(286,dP D_zmb)]):=ya ysr.e <| ye _
theorem dn:type_of% (@D_zmb.eq_1):=by and_intros<;>intros<;>rfl
theorem den (a0:(List UInt8))  : Den Tryz.prog 334 [.str a0] (.bool (zze a0)):=by
 generalize hR:zze a0=r
 unfold zze at hR
 refine di Tryz.func334 Tryz.ntmps334 Tryz.results334 ?_
 intro c hL hc hk
 obtain⟨hL0,_⟩:=hL
 have hw0:a0.length<9223372036854775808:=Nat.lt_succ_of_le hL0
 clear hL0
 simp only[pars,Nat.zero_add]
 iterate 2 refine rS ?_
 refine AWP.ret ?_
 subst hR
 exact es
end N334
def D_zze : DF
 | [x0]=>some (.bool (zze (rdS x0)),false,[wS x0])
 | _=>none
theorem y00:OkD Tryz.prog 334 D_zze:=by unfold D_zze;exact dk N334.den
end Go.Ab

namespace Go.Ab
open Go Go.Proofs
def zh (a0:Int) (a1:Int) (a2:Int):Bool:=
 (decide (a1≤a0) && decide (a0≤a2))
namespace N181
theorem DD:DOk Tryz.prog (Go.Ab.DD []):=ye _
theorem den (a0:Int) (a1:Int) (a2:Int)  : Den Tryz.prog 181 [.int .i64 a0,.int .i64 a1,.int .i64 a2] (.bool (zh a0 a1 a2)):=by
 generalize hR:zh a0 a1 a2=r
 unfold zh at hR
 refine di Tryz.func181 Tryz.ntmps181 Tryz.results181 ?_
 intro c hL hc hk
 clear hL
 simp only[pars,Nat.zero_add]
 iterate 2 refine rS ?_
 refine AWP.ret ?_
 subst hR
 exact es
end N181
def D_zh : DF
 | [x0,x1,x2]=>some (.bool (zh (rdI x0) (rdI x1) (rdI x2)),false,[wI .i64 x0,wI .i64 x1,wI .i64 x2])
 | _=>none
theorem yxc:OkD Tryz.prog 181 D_zh:=by unfold D_zh;exact dk N181.den
end Go.Ab

namespace Go.Ab
open Go Go.Proofs
def zgf (a0:Int):Bool:=
 (zh a0 0 359)
namespace N94
theorem DD:DOk Tryz.prog (Go.Ab.DD [(181,dP D_zh)]):=ya yxc.e <| ye _
theorem dn:type_of% (@D_zh.eq_1):=by and_intros<;>intros<;>rfl
theorem ol:type_of% (@zh.eq_1):=@zh.eq_1
theorem den (a0:Int)  : Den Tryz.prog 94 [.int .i64 a0] (.bool (zgf a0)):=by
 generalize hR:zgf a0=r
 unfold zgf at hR
 refine di Tryz.func94 Tryz.ntmps94 Tryz.results94 ?_
 intro c hL hc hk
 clear hL
 simp only[pars,Nat.zero_add]
 iterate 2 refine rS ?_
 refine AWP.ret ?_
 subst hR
 exact es
end N94
def D_zgf : DF
 | [x0]=>some (.bool (zgf (rdI x0)),false,[wI .i64 x0])
 | _=>none
theorem yly:OkD Tryz.prog 94 D_zgf:=by unfold D_zgf;exact dk N94.den
end Go.Ab

namespace Go.Ab
open Go Go.Proofs
def zaf (a0:Sector):Bool:=
 (((zgf a0.From) && (zgf a0.To)) && (zze a0.Color))
namespace N283
theorem DD:DOk Tryz.prog (Go.Ab.DD [(334,dP D_zze),(94,dP D_zgf)]):=ya y00.e <| ya yly.e <| ye _
theorem dn:type_of% (And.intro @D_zze.eq_1 <| @D_zgf.eq_1):=by and_intros<;>intros<;>rfl
theorem den (a0:Sector)  : Den Tryz.prog 283 [.agg (yj a0)] (.bool (zaf a0)):=by
 generalize hR:zaf a0=r
 unfold zaf at hR
 refine di Tryz.func283 Tryz.ntmps283 Tryz.results283 ?_
 intro c hL hc hk
 obtain⟨hL0,_⟩:=hL
 have hw0:bwSector a0:=yt a0 hL0
 clear hL0
 simp only[pars,Nat.zero_add]
 iterate 2 refine rS ?_
 refine AWP.ret ?_
 subst hR
 exact es
end N283
def D_zaf : DF
 | [x0]=>some (.bool (zaf (rdG yp x0)),false,[wG yj yp x0])
 | _=>none
theorem yi0:OkD Tryz.prog 283 D_zaf:=by unfold D_zaf;exact dk N283.den
end Go.Ab

namespace Go.Ab
open Go Go.Proofs
def zzd (a0:Int) (a1:Int):Int:=
 (IntKind.wrap .i64 ((a0.tmod a1)+a1)).tmod a1
namespace N335
theorem DD:DOk Tryz.prog (Go.Ab.DD []):=ye _
theorem den (a0:Int) (a1:Int) (hp0:0<a1):Den Tryz.prog 335 [.int .i64 a0,.int .i64 a1] (.int .i64 (zzd a0 a1)):=by
 generalize hR:zzd a0 a1=r
 unfold zzd at hR
 refine di Tryz.func335 Tryz.ntmps335 Tryz.results335 ?_
 intro c hL hc hk
 clear hL
 simp only[pars,Nat.zero_add]
 iterate 2 refine rS ?_
 refine AWP.ret ?_
 subst hR
 exact es
end N335
def D_zzd : DF
 | [x0,x1]=>some (.int .i64 (zzd (rdI x0) (rdI x1)),false,[wI .i64 x0,wI .i64 x1,0<(rdI x1)])
 | _=>none
theorem yws:OkD Tryz.prog 335 D_zzd:=by unfold D_zzd;exact dk N335.den
end Go.Ab

namespace Go.Ab
open Go Go.Proofs
def zcd (a0:Sector):Int:=
 IntKind.wrap .i64 ((zzd (IntKind.wrap .i64 ((IntKind.wrap .i64 (a0.To-a0.From))-1)) 360)+1)
namespace N285
theorem DD:DOk Tryz.prog (Go.Ab.DD [(335,dP D_zzd)]):=ya yws.e <| ye _
theorem dn:type_of% (@D_zzd.eq_1):=by and_intros<;>intros<;>rfl
theorem den (a0:Sector)  : Den Tryz.prog 285 [.agg (yj a0)] (.int .i64 (zcd a0)):=by
 generalize hR:zcd a0=r
 unfold zcd at hR
 refine di Tryz.func285 Tryz.ntmps285 Tryz.results285 ?_
 intro c hL hc hk
 obtain⟨hL0,_⟩:=hL
 have hw0:bwSector a0:=yt a0 hL0
 clear hL0
 simp only[pars,Nat.zero_add]
 iterate 2 refine rS ?_
 refine AWP.ret ?_
 subst hR
 exact es
end N285
def D_zcd : DF
 | [x0]=>some (.int .i64 (zcd (rdG yp x0)),false,[wG yj yp x0])
 | _=>none
theorem y8r:OkD Tryz.prog 285 D_zcd:=by unfold D_zcd;exact dk N285.den
end Go.Ab

namespace Go.Ab
open Go Go.Proofs
def zhe (a0:Sector) (a1:Int):Bool:=
 decide ((zzd (IntKind.wrap .i64 (a1-a0.From)) 360)<(zcd a0))
namespace N284
theorem DD:DOk Tryz.prog (Go.Ab.DD [(285,dP D_zcd),(335,dP D_zzd)]):=ya y8r.e <| ya yws.e <| ye _
theorem dn:type_of% (And.intro @D_zcd.eq_1 <| @D_zzd.eq_1):=by and_intros<;>intros<;>rfl
theorem den (a0:Sector) (a1:Int)  : Den Tryz.prog 284 [.agg (yj a0),.int .i64 a1] (.bool (zhe a0 a1)):=by
 generalize hR:zhe a0 a1=r
 unfold zhe at hR
 refine di Tryz.func284 Tryz.ntmps284 Tryz.results284 ?_
 intro c hL hc hk
 obtain⟨hL0,hL1,_⟩:=hL
 have hw0:bwSector a0:=yt a0 hL0
 clear hL0 hL1
 simp only[pars,Nat.zero_add]
 refine rS ?_
 refine rD 6 ?_
 refine AWP.ret ?_
 subst hR
 exact es
end N284
def D_zhe : DF
 | [x0,x1]=>some (.bool (zhe (rdG yp x0) (rdI x1)),false,[wG yj yp x0,wI .i64 x1])
 | _=>none
theorem yo0:OkD Tryz.prog 284 D_zhe:=by unfold D_zhe;exact dk N284.den
end Go.Ab

namespace Go.Ab
open Go Go.Proofs
def ytp (a0:(List Sector)) (i1:Nat) (s1:Int) (i2:Nat) (s2:Unit):Except (Bool) (Unit):=
 (bif (((i2:Int) != (i1:Int)) && (zhe (a0.getD i1 default) ((a0.getD i2 default).From)))then .error false else .ok ())
def ymm (a0:(List Sector)) (i1:Nat) (s1:Int):Except (Bool) (Int):=
 (bif ((!(zaf (a0.getD i1 default))) || (decide (0<(i1:Int)) && decide (((a0.getD i1 default).From)≤((a0.getD ((IntKind.wrap .i64 ((i1:Int)-1)).toNat) default).From))))then .error false else(match yd (ytp a0 i1 s1) (a0.length-0) 0 ()with|.error e=>.error e|.ok s2=>.ok (IntKind.wrap .i64 (s1+(zcd (a0.getD i1 default))))))
def zx (a0:(List Sector)):Bool:=
 (match yd (ymm a0) (a0.length-0) 0 0 with|.error e=>e|.ok s1=>((zrb (a0.length:Int) 12) && decide (s1≤360)))
namespace N215
theorem DD:DOk Tryz.prog (Go.Ab.DD [(160,dP D_zrb),(283,dP D_zaf),(284,dP D_zhe),(285,dP D_zcd)]):=ya ygi.e <| ya yi0.e <| ya yo0.e <| ya y8r.e <| ye _
theorem dn:type_of% (And.intro @D_zrb.eq_1 <| And.intro @D_zaf.eq_1 <| And.intro @D_zhe.eq_1 <| @D_zcd.eq_1):=by and_intros<;>intros<;>rfl
theorem den (a0:(List Sector))  : Den Tryz.prog 215 [encL 3 yj a0] (.bool (zx a0)):=by
 generalize hR:zx a0=r
 unfold zx at hR
 refine di Tryz.func215 Tryz.ntmps215 Tryz.results215 ?_
 intro c hL hc hk
 obtain⟨hL0,_⟩:=hL
 have hw0:a0.length<9223372036854775808:=Nat.lt_succ_of_le (ym hL0).1
 have hw1:∀ v∈a0,bwSector v:=fun v hv=>yt v ((ym hL0).2 v hv)
 clear hL0
 simp only[pars,Nat.zero_add]
 iterate 3 refine rS ?_
 refine AWP.block ?_
 generalize hz1:yd (ymm a0) (a0.length-0) 0 0=z1 at hR
 refine AWP.range (ymm a0) (fun i1 s1=>⟨[(0,encL 3 yj a0),(3,.int .i64 s1),(8,encL 3 yj a0),(9,.int .i64 (a0.length:Int)),(10,.int .i64 (i1:Int))],[]⟩) (fun i1 s1=>True) (a0.length) 0 0 [] hz1 ot wt sm ?_
 clear hz1
 intro i1 s1 hi1 hW1 hz1
 refine rS ?_
 refine AWP.seq ?_
 refine AWP.cond rfl (fun hb => ?_) (fun hb => ?_)
 ·have hlt1:i1<a0.length:=ot
  rw[yh hlt1]at hz1;simp only[ymm]at hz1
  refine rS ?_
  refine rD 18 ?_
  refine AWP.cond rfl (fun hb => ?_) (fun hb => ?_)
  ·simp only[hb,cond_true]at hz1
   refine rS ?_
   refine AWP.ret ?_
   subst hz1
   dsimp only at hR
   subst hR
   exact es
  ·simp only[hb,cond_false]at hz1
   refine rS ?_
   refine AWP.block ?_
   generalize hz2:yd (ytp a0 i1 s1) (a0.length-0) 0 ()=z2 at hz1
   refine AWP.range (ytp a0 i1 s1) (fun i2 s2=>⟨[(0,encL 3 yj a0),(3,.int .i64 s1),(4,.int .i64 (i1:Int)),(5,.ptr 0 0),(8,encL 3 yj a0),(9,.int .i64 (a0.length:Int)),(10,.int .i64 (i1:Int)),(33,encL 3 yj a0),(34,.int .i64 (a0.length:Int)),(35,.int .i64 (i2:Int))],[.box [.int .i64 ((a0.getD i1 default).From),.int .i64 ((a0.getD i1 default).To),.str ((a0.getD i1 default).Color)]]⟩) (fun i2 s2=>True) (a0.length) 0 () [0] hz2 ot wt sm ?_
   clear hz2
   intro i2 s2 hi2 hW2 hz2
   refine rS ?_
   refine AWP.seq ?_
   refine AWP.cond rfl (fun hb => ?_) (fun hb => ?_)
   ·have hlt2:i2<a0.length:=ot
    rw[yh hlt2]at hz2;simp only[ytp]at hz2
    iterate 2 refine rS ?_
    refine AWP.cond rfl (fun hb => ?_) (fun hb => ?_)
    ·simp only[hb,cond_true]at hz2
     refine rS ?_
     refine AWP.ret ?_
     subst hz2
     dsimp only at hz1
     subst hz1
     dsimp only at hR
     subst hR
     exact es
    ·simp only[hb,cond_false]at hz2
     refine rS ?_
     exact⟨_,[0],hlt2,wt,hz2,sm⟩
   ·obtain rfl:i2=a0.length:=ot
    rw[yg (Nat.le_refl _)]at hz2;subst hz2;dsimp only at hz1
    refine AWP.exit ?_;refine yb ?_
    iterate 2 refine rS ?_
    exact⟨_,[],hlt1,wt,hz1,sm⟩
 ·obtain rfl:i1=a0.length:=ot
  rw[yg (Nat.le_refl _)]at hz1;subst hz1;dsimp only at hR
  refine AWP.exit ?_;refine yb ?_
  refine rS ?_
  refine AWP.ret ?_
  subst hR
  exact es
end N215
def D_zx : DF
 | [x0]=>some (.bool (zx (rdL yp x0)),false,[wL 3 yj yp x0])
 | _=>none
theorem ytq:OkD Tryz.prog 215 D_zx:=by unfold D_zx;exact dk N215.den
end Go.Ab

namespace Go.Ab
open Go Go.Proofs
def zte (a0:Int):Bool:=
 (zh a0 1 9)
namespace N84
theorem DD:DOk Tryz.prog (Go.Ab.DD [(181,dP D_zh)]):=ya yxc.e <| ye _
theorem dn:type_of% (@D_zh.eq_1):=by and_intros<;>intros<;>rfl
theorem ol:type_of% (@zh.eq_1):=@zh.eq_1
theorem den (a0:Int)  : Den Tryz.prog 84 [.int .i64 a0] (.bool (zte a0)):=by
 generalize hR:zte a0=r
 unfold zte at hR
 refine di Tryz.func84 Tryz.ntmps84 Tryz.results84 ?_
 intro c hL hc hk
 clear hL
 simp only[pars,Nat.zero_add]
 iterate 2 refine rS ?_
 refine AWP.ret ?_
 subst hR
 exact es
end N84
def D_zte : DF
 | [x0]=>some (.bool (zte (rdI x0)),false,[wI .i64 x0])
 | _=>none
theorem y1r:OkD Tryz.prog 84 D_zte:=by unfold D_zte;exact dk N84.den
end Go.Ab

namespace Go.Ab
open Go Go.Proofs
def zie (a0:Int) (a1:Int):Bool:=
 (decide (0≤a0) && decide (a0<a1))
namespace N188
theorem DD:DOk Tryz.prog (Go.Ab.DD []):=ye _
theorem den (a0:Int) (a1:Int)  : Den Tryz.prog 188 [.int .i64 a0,.int .i64 a1] (.bool (zie a0 a1)):=by
 generalize hR:zie a0 a1=r
 unfold zie at hR
 refine di Tryz.func188 Tryz.ntmps188 Tryz.results188 ?_
 intro c hL hc hk
 clear hL
 simp only[pars,Nat.zero_add]
 iterate 2 refine rS ?_
 refine AWP.ret ?_
 subst hR
 exact es
end N188
def D_zie : DF
 | [x0,x1]=>some (.bool (zie (rdI x0) (rdI x1)),false,[wI .i64 x0,wI .i64 x1])
 | _=>none
theorem y8y:OkD Tryz.prog 188 D_zie:=by unfold D_zie;exact dk N188.den
end Go.Ab

namespace Go.Ab
open Go Go.Proofs
def zhb (a0:Int) (a1:(List (List UInt8))):(List UInt8):=
 (bif (!(zie a0 (a1.length:Int)))then[]else(a1.getD ((a0).toNat) default))
namespace N90
theorem DD:DOk Tryz.prog (Go.Ab.DD [(188,dP D_zie)]):=ya y8y.e <| ye _
theorem dn:type_of% (@D_zie.eq_1):=by and_intros<;>intros<;>rfl
theorem ol:type_of% (@zie.eq_1):=@zie.eq_1
theorem den (a0:Int) (a1:(List (List UInt8)))  : Den Tryz.prog 90 [.int .i64 a0,encL 1 eS a1] (.str (zhb a0 a1)):=by
 generalize hR:zhb a0 a1=r
 unfold zhb at hR
 refine di Tryz.func90 Tryz.ntmps90 Tryz.results90 ?_
 intro c hL hc hk
 obtain⟨hL0,hL1,_⟩:=hL
 have hw0:a1.length<9223372036854775808:=Nat.lt_succ_of_le (ym hL1).1
 have hw1:∀ v∈a1,bwS v:=fun v hv=>y0v v ((ym hL1).2 v hv)
 clear hL0 hL1
 simp only[pars,Nat.zero_add]
 iterate 2 refine rS ?_
 refine AWP.cond rfl (fun hb => ?_) (fun hb => ?_)
 ·replace hR:=ct hR
  refine rS ?_
  refine AWP.ret ?_
  subst hR
  exact es
 ·replace hR:=cf hR
  refine rS ?_
  refine AWP.ret ?_
  subst hR
  exact es
end N90
def D_zhb : DF
 | [x0,x1]=>some (.str (zhb (rdI x0) (rdL dS x1)),false,[wI .i64 x0,wL 1 eS dS x1])
 | _=>none
theorem ytg:OkD Tryz.prog 90 D_zhb:=by unfold D_zhb;exact dk N90.den
end Go.Ab

namespace Go.Ab
open Go Go.Proofs
def zue (a0:Int):(List UInt8):=
 (zhb a0 ([[],[82],[71],[66,89],[66,89,66],[89,66],[89,66,89],[66,82,66],[82,87],[89]]:List (List UInt8)))
namespace N85
theorem DD:DOk Tryz.prog (Go.Ab.DD [(90,dP D_zhb)]):=ya ytg.e <| ye _
theorem dn:type_of% (@D_zhb.eq_1):=by and_intros<;>intros<;>rfl
theorem lx {p:Prop} (h:p:=by(exact lxx);first|done|fail):p:=h
theorem den (a0:Int)  : Den Tryz.prog 85 [.int .i64 a0] (.str (zue a0)):=by
 generalize hR:zue a0=r
 unfold zue at hR
 refine di Tryz.func85 Tryz.ntmps85 Tryz.results85 ?_
 intro c hL hc hk
 clear hL
 simp only[pars,Nat.zero_add]
 iterate 2 refine rS ?_
 refine AWP.ret ?_
 subst hR
 exact es
end N85
def D_zue : DF
 | [x0]=>some (.str (zue (rdI x0)),false,[wI .i64 x0])
 | _=>none
theorem y5r:OkD Tryz.prog 85 D_zue:=by unfold D_zue;exact dk N85.den
end Go.Ab

namespace Go.Ab
open Go Go.Proofs
theorem ybt {P:List UInt8→Prop} (n:Int) (l:List (List UInt8)) (h0:P []) (h:∀ y∈l,P y):P (zhb n l):=by
 unfold zhb
 cases hb:zie n (l.length:Int)with
 | false=>exact h0
 | true=>
  simp only[Bool.not_true,cond_false]
  rw[List.getD_eq_getElem?_getD]
  by_cases hi:n.toNat<l.length
  ·rw[List.getElem?_eq_getElem hi];exact h _ (List.getElem_mem hi)
  ·rw[List.getElem?_eq_none (by omega)];exact h0
end Go.Ab

namespace Go.Ab
open Go Go.Proofs
def zhd (a0:Int):(List (List UInt8)):=
 (zof (zhb a0 ([[],[99,97,110,32,112,105,108,108,97,114,32,115,112,97,114],[99,111,110,101,32,112,105,108,108,97,114,32,115,112,97,114],[112,105,108,108,97,114,32,115,112,97,114],[112,105,108,108,97,114,32,115,112,97,114],[112,105,108,108,97,114,32,115,112,97,114],[112,105,108,108,97,114,32,115,112,97,114],[112,105,108,108,97,114,32,115,112,97,114],[115,112,104,101,114,101,32,112,105,108,108,97,114,32,115,112,97,114],[99,97,110,32,99,111,110,101,32,112,105,108,108,97,114,32,115,112,97,114,32,115,112,104,101,114,101]]:List (List UInt8))))
namespace N87
theorem DD:DOk Tryz.prog (Go.Ab.DD [(183,dP D_zof),(90,dP D_zhb)]):=ya yzy.e <| ya ytg.e <| ye _
theorem dn:type_of% (And.intro @D_zof.eq_1 <| @D_zhb.eq_1):=by and_intros<;>intros<;>rfl
theorem o0 {p:Prop} (h:p:=by(first|(and_intros<;>first|exact ybt (P:=fun y=>y.length≤1048576) _ _ (by simp) (by simp)|exact ybt (P:=fun y=>∀ x∈y,x.toNat<128) _ _ (by simp) (by simp)));first|done|fail):p:=h
theorem lx {p:Prop} (h:p:=by(exact lxx);first|done|fail):p:=h
theorem den (a0:Int)  : Den Tryz.prog 87 [.int .i64 a0] (ownL 9 1 eS (zhd a0)):=by
 generalize hR:zhd a0=r
 unfold zhd at hR
 refine di Tryz.func87 Tryz.ntmps87 Tryz.results87 ?_
 intro c hL hc hk
 clear hL
 simp only[pars,Nat.zero_add]
 iterate 2 refine rS ?_
 refine AWP.ret ?_
 subst hR
 exact es
end N87
def D_zhd : DF
 | [x0]=>some (ownL 9 1 eS (zhd (rdI x0)),false,[wI .i64 x0])
 | _=>none
def Dz_zhd : DF
 | [x0]=>some (ownL 9 1 eS (zhd (rdI x0)),true,[wI .i64 x0])
 | _=>none
theorem yg0:OkD Tryz.prog 87 D_zhd:=by unfold D_zhd;exact dk N87.den
theorem yvv:OkD Tryz.prog 87 Dz_zhd:=by unfold Dz_zhd;exact dk N87.den
end Go.Ab

namespace Go.Ab
open Go Go.Proofs
def zve (a0:Int):(List UInt8):=
 (zhb a0 ([[],[99,97,110],[99,111,110,101],[117,112],[98,97,115,101],[100,111,119,110],[112,111,105,110,116],[98,97,108,108,115],[98,97,108,108],[99,114,111,115,115]]:List (List UInt8)))
namespace N88
theorem DD:DOk Tryz.prog (Go.Ab.DD [(90,dP D_zhb)]):=ya ytg.e <| ye _
theorem dn:type_of% (@D_zhb.eq_1):=by and_intros<;>intros<;>rfl
theorem lx {p:Prop} (h:p:=by(exact lxx);first|done|fail):p:=h
theorem den (a0:Int)  : Den Tryz.prog 88 [.int .i64 a0] (.str (zve a0)):=by
 generalize hR:zve a0=r
 unfold zve at hR
 refine di Tryz.func88 Tryz.ntmps88 Tryz.results88 ?_
 intro c hL hc hk
 clear hL
 simp only[pars,Nat.zero_add]
 iterate 2 refine rS ?_
 refine AWP.ret ?_
 subst hR
 exact es
end N88
def D_zve : DF
 | [x0]=>some (.str (zve (rdI x0)),false,[wI .i64 x0])
 | _=>none
theorem yjr:OkD Tryz.prog 88 D_zve:=by unfold D_zve;exact dk N88.den
end Go.Ab

namespace Go.Ab
open Go Go.Proofs
def zhc (a0:Mark):Bool:=
 (bif (a0.Kind == 0 && (a0.Colors == [] && (a0.Shape == [] && a0.Topmark == [])))then true else((((zte a0.Kind) && (a0.Colors == (zue a0.Kind))) && (zge (zhd a0.Kind) a0.Shape)) && ((a0.Topmark == []) || (a0.Topmark == (zve a0.Kind)))))
namespace N17
theorem DD:DOk Tryz.prog (Go.Ab.DD [(84,dP D_zte),(85,dP D_zue),(86,dP D_zge),(87,dP D_zhd),(88,dP D_zve)]):=ya y1r.e <| ya y5r.e <| ya yes.e <| ya yg0.e <| ya yjr.e <| ye _
theorem DZ:DOk Tryz.prog (Go.Ab.DD [(84,dP D_zte),(85,dP D_zue),(86,dP D_zge),(87,dP Dz_zhd),(88,dP D_zve)]):=ya y1r.e <| ya y5r.e <| ya yes.e <| ya yvv.e <| ya yjr.e <| ye _
theorem dn:type_of% (And.intro @D_zte.eq_1 <| And.intro @D_zue.eq_1 <| And.intro @D_zge.eq_1 <| And.intro @D_zhd.eq_1 <| And.intro @D_zve.eq_1 <| @Dz_zhd.eq_1):=by and_intros<;>intros<;>rfl
theorem den (a0:Mark) (hb0:bdMark a0):Den Tryz.prog 17 [.agg (yrc a0)] (.bool (zhc a0)):=by
 generalize hR:zhc a0=r
 unfold zhc at hR
 refine di Tryz.func17 Tryz.ntmps17 Tryz.results17 ?_
 intro c hL hc hk
 obtain⟨hL0,_⟩:=hL
 have hw0:bwMark a0:=y0c a0 hL0
 clear hL0
 simp only[pars,Nat.zero_add]
 iterate 2 refine rS ?_
 refine AWP.cond rfl (fun hb => ?_) (fun hb => ?_)
 ·replace hR:=ct hR
  refine rS ?_
  refine AWP.ret ?_
  subst hR
  exact es
 ·replace hR:=cf hR
  refine rZ 32 ?_
  refine AWP.ret ?_
  subst hR
  exact es
end N17
def D_zhc : DF
 | [x0]=>some (.bool (zhc (rdG yrd x0)),false,[wG yrc yrd x0,bdMark (rdG yrd x0)])
 | _=>none
theorem y7l:OkD Tryz.prog 17 D_zhc:=by unfold D_zhc;exact dk N17.den
end Go.Ab

namespace Go.Ab
open Go Go.Proofs
def zhf (a0:Int):Bool:=
 (decide (48≤a0) && decide (a0≤57))
namespace N282
theorem DD:DOk Tryz.prog (Go.Ab.DD []):=ye _
theorem den (a0:Int)  : Den Tryz.prog 282 [.int .u8 a0] (.bool (zhf a0)):=by
 generalize hR:zhf a0=r
 unfold zhf at hR
 refine di Tryz.func282 Tryz.ntmps282 Tryz.results282 ?_
 intro c hL hc hk
 clear hL
 simp only[pars,Nat.zero_add]
 iterate 2 refine rS ?_
 refine AWP.ret ?_
 subst hR
 exact es
end N282
def D_zhf : DF
 | [x0]=>some (.bool (zhf (rdI x0)),false,[wI .u8 x0])
 | _=>none
theorem y9z:OkD Tryz.prog 282 D_zhf:=by unfold D_zhf;exact dk N282.den
end Go.Ab

namespace Go.Ab
open Go Go.Proofs
def yus (a0:(List UInt8)) (i1:Nat) (s1:Unit):Except (Bool) (Unit):=
 (bif ((!(decide (97≤((a0.getD i1 0).toNat:Int)) && decide (((a0.getD i1 0).toNat:Int)≤122))) && (((i1:Int) == 0) || (!(zhf ((a0.getD i1 0).toNat:Int)))))then .error false else .ok ())
def zod (a0:(List UInt8)):Bool:=
 (match yd (yus a0) (a0.length-0) 0 ()with|.error e=>e|.ok s1=>((a0 != []) && (zrb (a0.length:Int) 10)))
namespace N210
theorem DD:DOk Tryz.prog (Go.Ab.DD [(160,dP D_zrb),(282,dP D_zhf)]):=ya ygi.e <| ya y9z.e <| ye _
theorem dn:type_of% (And.intro @D_zrb.eq_1 <| @D_zhf.eq_1):=by and_intros<;>intros<;>rfl
theorem den (a0:(List UInt8))  : Den Tryz.prog 210 [.str a0] (.bool (zod a0)):=by
 generalize hR:zod a0=r
 unfold zod at hR
 refine di Tryz.func210 Tryz.ntmps210 Tryz.results210 ?_
 intro c hL hc hk
 obtain⟨hL0,_⟩:=hL
 have hw0:a0.length<9223372036854775808:=Nat.lt_succ_of_le hL0
 clear hL0
 simp only[pars,Nat.zero_add]
 iterate 2 refine rS ?_
 refine AWP.block ?_
 generalize hz1:yd (yus a0) (a0.length-0) 0 ()=z1 at hR
 refine AWP.range (yus a0) (fun i1 s1=>⟨[(0,.str a0),(3,.int .i64 (i1:Int))],[]⟩) (fun i1 s1=>True) (a0.length) 0 () [] hz1 ot wt sm ?_
 clear hz1
 intro i1 s1 hi1 hW1 hz1
 refine rS ?_
 refine AWP.cond rfl (fun hb => ?_) (fun hb => ?_)
 ·have hlt1:i1<a0.length:=ot
  rw[yh hlt1]at hz1;simp only[yus]at hz1
  iterate 2 refine rS ?_
  refine AWP.cond rfl (fun hb => ?_) (fun hb => ?_)
  ·simp only[hb,cond_true]at hz1
   refine rS ?_
   refine AWP.ret ?_
   subst hz1
   dsimp only at hR
   subst hR
   exact es
  ·simp only[hb,cond_false]at hz1
   refine rS ?_
   exact⟨_,[],hlt1,wt,hz1,sm⟩
 ·obtain rfl:i1=a0.length:=ot
  rw[yg (Nat.le_refl _)]at hz1;subst hz1;dsimp only at hR
  refine AWP.exit ?_;refine yb ?_
  refine rS ?_
  refine AWP.ret ?_
  subst hR
  exact es
end N210
def D_zod : DF
 | [x0]=>some (.bool (zod (rdS x0)),false,[wS x0])
 | _=>none
theorem yoy:OkD Tryz.prog 210 D_zod:=by unfold D_zod;exact dk N210.den
end Go.Ab

namespace Go.Ab
open Go Go.Proofs
def y5m (a0:(List Int)) (i1:Nat) (s1:Int):Except (Bool) (Int):=
 (bif (!(zh (a0.getD i1 default) 1 9))then .error false else .ok (IntKind.wrap .i64 (s1+(a0.getD i1 default))))
def zwc (a0:(List Int)):Bool:=
 (match yd (y5m a0) (a0.length-0) 0 0 with|.error e=>e|.ok s1=>(((zrb (a0.length:Int) 4) && decide (s1≤12)) && (!(zbc a0 ([1]:List Int)))))
namespace N266
theorem DD:DOk Tryz.prog (Go.Ab.DD [(160,dP D_zrb),(181,dP D_zh),(93,dP D_zbc)]):=ya ygi.e <| ya yxc.e <| ya ytr.e <| ye _
theorem dn:type_of% (And.intro @D_zrb.eq_1 <| And.intro @D_zh.eq_1 <| @D_zbc.eq_1):=by and_intros<;>intros<;>rfl
theorem ol:type_of% (@zh.eq_1):=@zh.eq_1
theorem den (a0:(List Int))  : Den Tryz.prog 266 [encL 1 yq a0] (.bool (zwc a0)):=by
 generalize hR:zwc a0=r
 unfold zwc at hR
 refine di Tryz.func266 Tryz.ntmps266 Tryz.results266 ?_
 intro c hL hc hk
 obtain⟨hL0,_⟩:=hL
 have hw0:a0.length<9223372036854775808:=Nat.lt_succ_of_le (ym hL0).1
 clear hL0
 simp only[pars,Nat.zero_add]
 iterate 3 refine rS ?_
 refine AWP.block ?_
 generalize hz1:yd (y5m a0) (a0.length-0) 0 0=z1 at hR
 refine AWP.range (y5m a0) (fun i1 s1=>⟨[(0,encL 1 yq a0),(3,.int .i64 s1),(6,encL 1 yq a0),(7,.int .i64 (a0.length:Int)),(8,.int .i64 (i1:Int))],[]⟩) (fun i1 s1=>True) (a0.length) 0 0 [] hz1 ot wt sm ?_
 clear hz1
 intro i1 s1 hi1 hW1 hz1
 refine rS ?_
 refine AWP.seq ?_
 refine AWP.cond rfl (fun hb => ?_) (fun hb => ?_)
 ·have hlt1:i1<a0.length:=ot
  rw[yh hlt1]at hz1;simp only[y5m]at hz1
  iterate 2 refine rS ?_
  refine AWP.cond rfl (fun hb => ?_) (fun hb => ?_)
  ·simp only[hb,cond_true]at hz1
   refine rS ?_
   refine AWP.ret ?_
   subst hz1
   dsimp only at hR
   subst hR
   exact es
  ·simp only[hb,cond_false]at hz1
   iterate 2 refine rS ?_
   exact⟨_,[],hlt1,wt,hz1,sm⟩
 ·obtain rfl:i1=a0.length:=ot
  rw[yg (Nat.le_refl _)]at hz1;subst hz1;dsimp only at hR
  refine AWP.exit ?_;refine yb ?_
  refine rS ?_
  refine AWP.ret ?_
  subst hR
  exact es
end N266
def D_zwc : DF
 | [x0]=>some (.bool (zwc (rdL ywb x0)),false,[wL 1 yq ywb x0])
 | _=>none
theorem y4z:OkD Tryz.prog 266 D_zwc:=by unfold D_zwc;exact dk N266.den
end Go.Ab

namespace Go.Ab
open Go Go.Proofs
def y7f (a0:(List UInt8)) (i1:Nat) (s1:Int):Except (Bool) (Int):=
 (bif decide ((zyd [87,82,71,89] ((a0.getD i1 0).toNat:Int))≤s1)then .error false else .ok (zyd [87,82,71,89] ((a0.getD i1 0).toNat:Int)))
def znb (a0:(List UInt8)):Bool:=
 (match yd (y7f a0) (a0.length-0) 0 (-1)with|.error e=>e|.ok s1=>(zh (a0.length:Int) 1 3))
namespace N189
theorem DD:DOk Tryz.prog (Go.Ab.DD [(181,dP D_zh),(265,dP D_zyd)]):=ya yxc.e <| ya yqy.e <| ye _
theorem dn:type_of% (And.intro @D_zh.eq_1 <| @D_zyd.eq_1):=by and_intros<;>intros<;>rfl
theorem ol:type_of% (@zh.eq_1):=@zh.eq_1
theorem den (a0:(List UInt8))  : Den Tryz.prog 189 [.str a0] (.bool (znb a0)):=by
 generalize hR:znb a0=r
 unfold znb at hR
 refine di Tryz.func189 Tryz.ntmps189 Tryz.results189 ?_
 intro c hL hc hk
 obtain⟨hL0,_⟩:=hL
 have hw0:a0.length<9223372036854775808:=Nat.lt_succ_of_le hL0
 clear hL0
 simp only[pars,Nat.zero_add]
 iterate 3 refine rS ?_
 refine AWP.block ?_
 generalize hz1:yd (y7f a0) (a0.length-0) 0 (-1)=z1 at hR
 refine AWP.range (y7f a0) (fun i1 s1=>⟨[(0,.str a0),(3,.int .i64 s1),(4,.int .i64 (i1:Int))],[]⟩) (fun i1 s1=>True) (a0.length) 0 (-1) [] hz1 ot wt sm ?_
 clear hz1
 intro i1 s1 hi1 hW1 hz1
 refine rS ?_
 refine AWP.cond rfl (fun hb => ?_) (fun hb => ?_)
 ·have hlt1:i1<a0.length:=ot
  rw[yh hlt1]at hz1;simp only[y7f]at hz1
  iterate 2 refine rS ?_
  refine AWP.cond rfl (fun hb => ?_) (fun hb => ?_)
  ·simp only[hb,cond_true]at hz1
   refine rS ?_
   refine AWP.ret ?_
   subst hz1
   dsimp only at hR
   subst hR
   exact es
  ·simp only[hb,cond_false]at hz1
   iterate 2 refine rS ?_
   exact⟨_,[],hlt1,wt,hz1,sm⟩
 ·obtain rfl:i1=a0.length:=ot
  rw[yg (Nat.le_refl _)]at hz1;subst hz1;dsimp only at hR
  refine AWP.exit ?_;refine yb ?_
  refine rS ?_
  refine AWP.ret ?_
  subst hR
  exact es
end N189
def D_znb : DF
 | [x0]=>some (.bool (znb (rdS x0)),false,[wS x0])
 | _=>none
theorem yf0:OkD Tryz.prog 189 D_znb:=by unfold D_znb;exact dk N189.den
end Go.Ab

namespace Go.Ab
open Go Go.Proofs
def zkb (a0:(List UInt8)):(List UInt8):=
 (bif ((((a0.length:Int) != 1) || Op.bytesLess a0 [65]) || !(Op.bytesLess a0 [90] || a0 == [90]))then[]else([[46,45],[45,46,46,46],[45,46,45,46],[45,46,46],[46],[46,46,45,46],[45,45,46],[46,46,46,46],[46,46],[46,45,45,45],[45,46,45],[46,45,46,46],[45,45],[45,46],[45,45,45],[46,45,45,46],[45,45,46,45],[46,45,46],[46,46,46],[45],[46,46,45],[46,46,46,45],[46,45,45],[45,46,46,45],[45,46,45,45],[45,45,46,46]]:List (List UInt8)).getD ((IntKind.wrap .u8 (((a0.getD 0 0).toNat:Int)-65)).toNat) [])
namespace N267
theorem DD:DOk Tryz.prog (Go.Ab.DD []):=ye _
theorem o0 {p:Prop} (h:p:=by(first|(simp only[Bool.or_eq_false_iff,Bool.not_eq_false',Bool.or_eq_true,bne_eq_false_iff_eq]at hb;have h9:=ywy a0 hb;have h8:=hb.1.1;and_intros<;>omega));first|done|fail):p:=h
theorem den (a0:(List UInt8))  : Den Tryz.prog 267 [.str a0] (.str (zkb a0)):=by
 generalize hR:zkb a0=r
 unfold zkb at hR
 refine di Tryz.func267 Tryz.ntmps267 Tryz.results267 ?_
 intro c hL hc hk
 obtain⟨hL0,_⟩:=hL
 have hw0:a0.length<9223372036854775808:=Nat.lt_succ_of_le hL0
 clear hL0
 simp only[pars,Nat.zero_add]
 iterate 2 refine rS ?_
 refine AWP.cond rfl (fun hb => ?_) (fun hb => ?_)
 ·replace hR:=ct hR
  refine rS ?_
  refine AWP.ret ?_
  subst hR
  exact es
 ·replace hR:=cf hR
  refine rS ?_
  refine AWP.ret ?_
  subst hR
  exact es
end N267
def D_zkb : DF
 | [x0]=>some (.str (zkb (rdS x0)),false,[wS x0])
 | _=>none
theorem ygt:OkD Tryz.prog 267 D_zkb:=by unfold D_zkb;exact dk N267.den
end Go.Ab

namespace Go.Ab
open Go Go.Proofs
def zbb (a0:Character):Bool:=
 (bif (a0.Kind == 1)then(((a0.Group.length:Int) == 0) && (a0.Letter == []))else(bif (a0.Kind == 3)then(((a0.Group.length:Int) == 0) && (a0.Letter == []))else(bif (a0.Kind == 2)then((a0.Letter == []) && (zwc a0.Group))else(bif (a0.Kind == 4)then((a0.Letter == []) && (zwc a0.Group))else(bif (a0.Kind == 5)then((a0.Letter == []) && (zwc a0.Group))else(bif (a0.Kind == 6)then(bif (a0.Letter == [])then(((a0.Group.length:Int) == 0) || (((a0.Group.length:Int) == 1) && (zh (a0.Group.getD 0 default) 2 9)))else((a0.Letter == [76]) && (zbc a0.Group ([6]:List Int))))else(bif (a0.Kind == 7)then(bif (a0.Letter == [])then(((a0.Group.length:Int) == 0) || (((a0.Group.length:Int) == 1) && (zh (a0.Group.getD 0 default) 2 9)))else((a0.Letter == [76]) && (zbc a0.Group ([6]:List Int))))else(bif (a0.Kind == 8)then(((zkb a0.Letter) != []) && ((a0.Group.length:Int) == 0))else false))))))))
namespace N190
theorem DD:DOk Tryz.prog (Go.Ab.DD [(181,dP D_zh),(266,dP D_zwc),(267,dP D_zkb),(93,dP D_zbc)]):=ya yxc.e <| ya y4z.e <| ya ygt.e <| ya ytr.e <| ye _
theorem dn:type_of% (And.intro @D_zh.eq_1 <| And.intro @D_zwc.eq_1 <| And.intro @D_zkb.eq_1 <| @D_zbc.eq_1):=by and_intros<;>intros<;>rfl
theorem ol:type_of% (@zh.eq_1):=@zh.eq_1
theorem den (a0:Character)  : Den Tryz.prog 190 [.agg (yf a0)] (.bool (zbb a0)):=by
 generalize hR:zbb a0=r
 unfold zbb at hR
 refine di Tryz.func190 Tryz.ntmps190 Tryz.results190 ?_
 intro c hL hc hk
 obtain⟨hL0,_⟩:=hL
 have hw0:bwCharacter a0:=yn a0 hL0
 clear hL0
 simp only[pars,Nat.zero_add]
 iterate 3 refine rS ?_
 refine AWP.cond rfl (fun hb => ?_) (fun hb => ?_)
 ·replace hR:=ct hR
  refine AWP.skip ?_
  refine AWP.cond rfl (fun hb => ?_) (fun hb => ?_)
  ·refine rS ?_
   refine AWP.ret ?_
   subst hR
   exact es
  ·exfalso;simp_all
 ·replace hR:=cf hR
  refine rS ?_
  refine AWP.cond rfl (fun hb => ?_) (fun hb => ?_)
  ·replace hR:=ct hR
   refine rS ?_
   refine AWP.ret ?_
   subst hR
   exact es
  ·replace hR:=cf hR
   refine rS ?_
   refine AWP.cond rfl (fun hb => ?_) (fun hb => ?_)
   ·replace hR:=ct hR
    refine AWP.skip ?_
    refine AWP.cond rfl (fun hb => ?_) (fun hb => ?_)
    ·refine rS ?_
     refine AWP.ret ?_
     subst hR
     exact es
    ·exfalso;simp_all
   ·replace hR:=cf hR
    refine rS ?_
    refine AWP.cond rfl (fun hb => ?_) (fun hb => ?_)
    ·replace hR:=ct hR
     refine AWP.skip ?_
     refine AWP.cond rfl (fun hb => ?_) (fun hb => ?_)
     ·refine rS ?_
      refine AWP.ret ?_
      subst hR
      exact es
     ·exfalso;simp_all
    ·replace hR:=cf hR
     refine rS ?_
     refine AWP.cond rfl (fun hb => ?_) (fun hb => ?_)
     ·replace hR:=ct hR
      refine rS ?_
      refine AWP.ret ?_
      subst hR
      exact es
     ·replace hR:=cf hR
      refine rS ?_
      refine AWP.cond rfl (fun hb => ?_) (fun hb => ?_)
      ·replace hR:=ct hR
       refine AWP.skip ?_
       refine AWP.cond rfl (fun hb => ?_) (fun hb => ?_)
       ·refine rS ?_
        refine AWP.cond rfl (fun hb => ?_) (fun hb => ?_)
        ·replace hR:=ct hR
         refine rS ?_
         refine AWP.ret ?_
         subst hR
         exact es
        ·replace hR:=cf hR
         refine rS ?_
         refine AWP.ret ?_
         subst hR
         exact es
       ·exfalso;simp_all
      ·replace hR:=cf hR
       refine rS ?_
       refine AWP.cond rfl (fun hb => ?_) (fun hb => ?_)
       ·replace hR:=ct hR
        refine rS ?_
        refine AWP.cond rfl (fun hb => ?_) (fun hb => ?_)
        ·replace hR:=ct hR
         refine rS ?_
         refine AWP.ret ?_
         subst hR
         exact es
        ·replace hR:=cf hR
         refine rS ?_
         refine AWP.ret ?_
         subst hR
         exact es
       ·replace hR:=cf hR
        refine rS ?_
        refine AWP.cond rfl (fun hb => ?_) (fun hb => ?_)
        ·replace hR:=ct hR
         refine rS ?_
         refine AWP.ret ?_
         subst hR
         exact es
        ·replace hR:=cf hR
         refine rS ?_
         refine AWP.ret ?_
         subst hR
         exact es
end N190
def D_zbb : DF
 | [x0]=>some (.bool (zbb (rdG yc x0)),false,[wG yf yc x0])
 | _=>none
theorem y70:OkD Tryz.prog 190 D_zbb:=by unfold D_zbb;exact dk N190.den
end Go.Ab

namespace Go.Ab
open Go Go.Proofs
theorem yji (a:List UInt8):zkb a=if a.length=1∧65≤(a.getD 0 0).toNat∧(a.getD 0 0).toNat≤90 then yqc.getD ((a.getD 0 0).toNat-65) []else[]:=by
 unfold zkb
 by_cases h1:a.length=1
 ·have c1:((a.length:Int) != 1)=false:=by rw[h1];rfl
  rw[c1,y2g a 65 h1,y2g a 90 h1,y2v a 90 h1]
  have e1:(65:UInt8).toNat=65:=rfl
  have e2:(90:UInt8).toNat=90:=rfl
  rw[e1,e2]
  by_cases h2:65≤(a.getD 0 0).toNat∧(a.getD 0 0).toNat≤90
  ·rw[if_pos ⟨h1,h2⟩,decide_eq_false (by omega)]
   have c2:(decide ((a.getD 0 0).toNat<90) || decide ((a.getD 0 0).toNat=90))=true:=by
    rw[Bool.or_eq_true,decide_eq_true_eq,decide_eq_true_eq];omega
   rw[c2]
   simp only[Bool.or_self,Bool.not_true,cond_false]
   rw[y9i _ (by omega) (by omega),show((((a.getD 0 0).toNat:Int)-65).toNat)=(a.getD 0 0).toNat-65 by omega]
   rfl
  ·rw[if_neg (fun h=>h2 h.2)]
   by_cases h3:(a.getD 0 0).toNat<65
   ·rw[decide_eq_true h3];rfl
   ·have c2:(decide ((a.getD 0 0).toNat<90) || decide ((a.getD 0 0).toNat=90))=false:=by
     rw[decide_eq_false (by omega),decide_eq_false (by omega)];rfl
    rw[c2,decide_eq_false h3];rfl
 ·have c1:((a.length:Int) != 1)=true:=by rw[bne_iff_ne];omega
  rw[c1,if_neg (fun h=>h1 h.1)]
  rfl
theorem yyv (a:List UInt8):(zkb a).length≤4:=by
 rw[yji]
 split
 ·exact yui _
 ·simp
theorem y8q (a:List UInt8):∀ x∈zkb a,x.toNat<128:=by
 intro x hx
 rw[yji]at hx
 split at hx
 ·rw[List.getD_eq_getElem?_getD]at hx
  cases h:yqc[(a.getD 0 0).toNat-65]? with
  | none=>rw[h]at hx;simp at hx
  | some y=>
   rw[h]at hx
   rcases(ykg y (List.mem_of_getElem? h)).2.2 x hx with e|e<;>subst e<;>decide
 ·simp at hx
end Go.Ab

namespace Go.Ab
open Go Go.Proofs
def zpf (a0:Int):Bool:=
 ((a0 == 6) || (a0 == 7))
namespace N268
theorem DD:DOk Tryz.prog (Go.Ab.DD []):=ye _
theorem den (a0:Int)  : Den Tryz.prog 268 [.int .i64 a0] (.bool (zpf a0)):=by
 generalize hR:zpf a0=r
 unfold zpf at hR
 refine di Tryz.func268 Tryz.ntmps268 Tryz.results268 ?_
 intro c hL hc hk
 clear hL
 simp only[pars,Nat.zero_add]
 iterate 2 refine rS ?_
 refine AWP.ret ?_
 subst hR
 exact es
end N268
def D_zpf : DF
 | [x0]=>some (.bool (zpf (rdI x0)),false,[wI .i64 x0])
 | _=>none
theorem yox:OkD Tryz.prog 268 D_zpf:=by unfold D_zpf;exact dk N268.den
end Go.Ab

namespace Go.Ab
open Go Go.Proofs
def zmc (a0:Character):Bool:=
 ((a0.Kind == 1) || ((zpf a0.Kind) && ((a0.Group.length:Int) == 0)))
namespace N191
theorem DD:DOk Tryz.prog (Go.Ab.DD [(268,dP D_zpf)]):=ya yox.e <| ye _
theorem dn:type_of% (@D_zpf.eq_1):=by and_intros<;>intros<;>rfl
theorem den (a0:Character)  : Den Tryz.prog 191 [.agg (yf a0)] (.bool (zmc a0)):=by
 generalize hR:zmc a0=r
 unfold zmc at hR
 refine di Tryz.func191 Tryz.ntmps191 Tryz.results191 ?_
 intro c hL hc hk
 obtain⟨hL0,_⟩:=hL
 have hw0:bwCharacter a0:=yn a0 hL0
 clear hL0
 simp only[pars,Nat.zero_add]
 iterate 2 refine rS ?_
 refine AWP.ret ?_
 subst hR
 exact es
end N191
def D_zmc : DF
 | [x0]=>some (.bool (zmc (rdG yc x0)),false,[wG yf yc x0])
 | _=>none
theorem y2r:OkD Tryz.prog 191 D_zmc:=by unfold D_zmc;exact dk N191.den
end Go.Ab

namespace Go.Ab
open Go Go.Proofs
def zu (a0:Int):(Int×Int×Int):=
 (bif (a0 == 2)then(10,10,15)else(bif (a0 == 4)then(5,15,20)else(bif (a0 == 5)then(20,20,25)else(bif (a0 == 6)then(5,5,20)else(bif (a0 == 7)then(2,3,10)else(bif (a0 == 8)then(5,5,30)else(0,0,0)))))))
namespace N269
theorem DD:DOk Tryz.prog (Go.Ab.DD []):=ye _
theorem den (a0:Int)  : Den Tryz.prog 269 [.int .i64 a0] (.tup [.int .i64 ((zu a0).1),.int .i64 ((zu a0).2.1),.int .i64 ((zu a0).2.2)]):=by
 generalize hR:zu a0=r
 unfold zu at hR
 refine di Tryz.func269 Tryz.ntmps269 Tryz.results269 ?_
 intro c hL hc hk
 clear hL
 simp only[pars,Nat.zero_add]
 iterate 3 refine rS ?_
 refine AWP.cond rfl (fun hb => ?_) (fun hb => ?_)
 ·replace hR:=ct hR
  refine rS ?_
  refine AWP.ret ?_
  subst hR
  exact es
 ·replace hR:=cf hR
  refine rS ?_
  refine AWP.cond rfl (fun hb => ?_) (fun hb => ?_)
  ·replace hR:=ct hR
   refine rS ?_
   refine AWP.ret ?_
   subst hR
   exact es
  ·replace hR:=cf hR
   refine rS ?_
   refine AWP.cond rfl (fun hb => ?_) (fun hb => ?_)
   ·replace hR:=ct hR
    refine rS ?_
    refine AWP.ret ?_
    subst hR
    exact es
   ·replace hR:=cf hR
    refine rS ?_
    refine AWP.cond rfl (fun hb => ?_) (fun hb => ?_)
    ·replace hR:=ct hR
     refine rS ?_
     refine AWP.ret ?_
     subst hR
     exact es
    ·replace hR:=cf hR
     refine rS ?_
     refine AWP.cond rfl (fun hb => ?_) (fun hb => ?_)
     ·replace hR:=ct hR
      refine rS ?_
      refine AWP.ret ?_
      subst hR
      exact es
     ·replace hR:=cf hR
      refine rS ?_
      refine AWP.cond rfl (fun hb => ?_) (fun hb => ?_)
      ·replace hR:=ct hR
       refine rS ?_
       refine AWP.ret ?_
       subst hR
       exact es
      ·replace hR:=cf hR
       refine rS ?_
       refine AWP.ret ?_
       subst hR
       exact es
end N269
def D_zu : DF
 | [x0]=>some (.tup [.int .i64 ((zu (rdI x0)).1),.int .i64 ((zu (rdI x0)).2.1),.int .i64 ((zu (rdI x0)).2.2)],false,[wI .i64 x0])
 | _=>none
theorem yjv:OkD Tryz.prog 269 D_zu:=by unfold D_zu;exact dk N269.den
end Go.Ab

namespace Go.Ab
open Go Go.Proofs
def y6s (a0:(List Int)) (i1:Nat) (s1:Int):Except (Int) (Int):=
 .ok (IntKind.wrap .i64 (s1+(a0.getD i1 default)))
def zsd (a0:(List Int)):Int:=
 (match yd (y6s a0) (a0.length-0) 0 0 with|.error e=>e|.ok s1=>s1)
namespace N270
theorem DD:DOk Tryz.prog (Go.Ab.DD []):=ye _
theorem den (a0:(List Int))  : Den Tryz.prog 270 [encL 1 yq a0] (.int .i64 (zsd a0)):=by
 generalize hR:zsd a0=r
 unfold zsd at hR
 refine di Tryz.func270 Tryz.ntmps270 Tryz.results270 ?_
 intro c hL hc hk
 obtain⟨hL0,_⟩:=hL
 have hw0:a0.length<9223372036854775808:=Nat.lt_succ_of_le (ym hL0).1
 clear hL0
 simp only[pars,Nat.zero_add]
 iterate 3 refine rS ?_
 refine AWP.block ?_
 generalize hz1:yd (y6s a0) (a0.length-0) 0 0=z1 at hR
 refine AWP.range (y6s a0) (fun i1 s1=>⟨[(3,.int .i64 s1),(6,encL 1 yq a0),(7,.int .i64 (a0.length:Int)),(8,.int .i64 (i1:Int))],[]⟩) (fun i1 s1=>True) (a0.length) 0 0 [] hz1 ot wt sm ?_
 clear hz1
 intro i1 s1 hi1 hW1 hz1
 refine rS ?_
 refine AWP.seq ?_
 refine AWP.cond rfl (fun hb => ?_) (fun hb => ?_)
 ·have hlt1:i1<a0.length:=ot
  rw[yh hlt1]at hz1;simp only[y6s]at hz1
  iterate 3 refine rS ?_
  exact⟨_,[],hlt1,wt,hz1,sm⟩
 ·obtain rfl:i1=a0.length:=ot
  rw[yg (Nat.le_refl _)]at hz1;subst hz1;dsimp only at hR
  refine AWP.exit ?_;refine yb ?_
  refine rS ?_
  refine AWP.ret ?_
  subst hR
  exact es
end N270
def D_zsd : DF
 | [x0]=>some (.int .i64 (zsd (rdL ywb x0)),false,[wL 1 yq ywb x0])
 | _=>none
theorem ygy:OkD Tryz.prog 270 D_zsd:=by unfold D_zsd;exact dk N270.den
end Go.Ab

namespace Go.Ab
open Go Go.Proofs
def y6n (a0:(List Sector)) (i1:Nat) (s1:List UInt8) (i2:Nat) (s2:List UInt8):Except ((List UInt8)) (List UInt8):=
 (bif ((((a0.getD i2 default).Color) == (([87,82,71,89].take ((IntKind.wrap .i64 ((i1:Int)+1)).toNat)).drop i1)) && (!(zmb s2 (([87,82,71,89].take ((IntKind.wrap .i64 ((i1:Int)+1)).toNat)).drop i1))))then .ok (s2++(([87,82,71,89].take ((IntKind.wrap .i64 ((i1:Int)+1)).toNat)).drop i1))else .ok s2)
def y2k (a0:(List Sector)) (i1:Nat) (s1:List UInt8):Except ((List UInt8)) (List UInt8):=
 (match yd (y6n a0 i1 s1) (a0.length-0) 0 s1 with|.error e=>.error e|.ok s2=>.ok s2)
def zcc (a0:(List Sector)):(List UInt8):=
 (match yd (y2k a0) ([87,82,71,89].length-0) 0 []with|.error e=>e|.ok s1=>s1)
namespace N216
theorem DD:DOk Tryz.prog (Go.Ab.DD [(286,dP D_zmb)]):=ya ysr.e <| ye _
theorem dn:type_of% (@D_zmb.eq_1):=by and_intros<;>intros<;>rfl
theorem o0 {p:Prop} (h:p:=by(first|(have h4:=hq4 i1;have h1:=hW1;have h2:=hW2;and_intros<;>first|omega|exact yxr (by omega)));first|done|fail):p:=h
theorem den (a0:(List Sector)) (hb0:a0.length<1099511627776) (hb1:∀ v∈a0,bdSector v):Den Tryz.prog 216 [encL 3 yj a0] (.str (zcc a0)):=by
 generalize hR:zcc a0=r
 unfold zcc at hR
 refine di Tryz.func216 Tryz.ntmps216 Tryz.results216 ?_
 intro c hL hc hk
 obtain⟨hL0,_⟩:=hL
 have hw0:a0.length<9223372036854775808:=Nat.lt_succ_of_le (ym hL0).1
 have hw1:∀ v∈a0,bwSector v:=fun v hv=>yt v ((ym hL0).2 v hv)
 clear hL0
 simp only[pars,Nat.zero_add]
 have hq4:=yux
 iterate 3 refine rS ?_
 refine AWP.block ?_
 generalize hz1:yd (y2k a0) ([87,82,71,89].length-0) 0 []=z1 at hR
 refine AWP.range (y2k a0) (fun i1 s1=>⟨[(0,encL 3 yj a0),(3,.str s1),(8,.ptr 0 0)],[.it [87,82,71,89] i1 (decide (i1<[87,82,71,89].length))]⟩) (fun i1 s1=>s1.length≤1099511627776 * i1) ([87,82,71,89].length) 0 [] [0] hz1 ot (by(simp)) sm ?_
 clear hz1
 intro i1 s1 hi1 hW1 hz1
 refine AWP.seq ?_
 by_cases hlt1:i1<[87,82,71,89].length
 ·rw[yh hlt1]at hz1;simp only[y2k]at hz1
  rw[decide_eq_true hlt1]
  refine rS ?_
  refine AWP.seq ?_
  refine AWP.cond rfl (fun hb => ?_) (fun hb=>by cases hb)
  iterate 2 refine rS ?_
  refine AWP.block ?_
  generalize hz2:yd (y6n a0 i1 s1) (a0.length-0) 0 s1=z2 at hz1
  refine AWP.range (y6n a0 i1 s1) (fun i2 s2=>⟨[(0,encL 3 yj a0),(3,.str s2),(4,.int .i64 (i1:Int)),(8,.ptr 0 0),(12,encL 3 yj a0),(13,.int .i64 (a0.length:Int)),(14,.int .i64 (i2:Int))],[.it [87,82,71,89] (i1+1) (decide (i1+1<[87,82,71,89].length))]⟩) (fun i2 s2=>s2.length≤1099511627776 * i1+i2) (a0.length) 0 s1 [0] hz2 ot (by(exact hW1)) sm ?_
  clear hz2
  intro i2 s2 hi2 hW2 hz2
  refine rS ?_
  refine AWP.seq ?_
  refine AWP.cond rfl (fun hb => ?_) (fun hb => ?_)
  ·have hlt2:i2<a0.length:=ot
   rw[yh hlt2]at hz2;simp only[y6n]at hz2
   iterate 3 refine rS ?_
   refine AWP.cond rfl (fun hb => ?_) (fun hb => ?_)
   ·simp only[hb,cond_true]at hz2
    iterate 2 refine rS ?_
    exact⟨_,[0],hlt2,by(have h4:=hq4 i1;have h2:=hW2;simp only[ln]at *;omega),hz2,sm⟩
   ·simp only[hb,cond_false]at hz2
    refine rS ?_
    exact⟨_,[0],hlt2,by(have h4:=hq4 i1;have h2:=hW2;simp only[ln]at *;omega),hz2,sm⟩
  ·obtain rfl:i2=a0.length:=ot
   rw[yg (Nat.le_refl _)]at hz2;subst hz2;dsimp only at hz1
   refine AWP.exit ?_;refine yb ?_
   exact⟨_,[0],hlt1,by(have h1:=hW1;omega),hz1,sm⟩
 ·obtain rfl:i1=[87,82,71,89].length:=by omega
  rw[yg (Nat.le_refl _)]at hz1;subst hz1;dsimp only at hR
  simp only[Nat.lt_irrefl,decide_false]
  refine rS ?_
  refine AWP.seq ?_
  refine AWP.cond rfl (fun hb=>by cases hb) (fun hb => ?_)
  refine AWP.exit ?_;refine yb ?_
  refine rS ?_
  refine AWP.ret ?_
  subst hR
  exact es
end N216
def D_zcc : DF
 | [x0]=>some (.str (zcc (rdL yp x0)),false,[wL 3 yj yp x0,(rdL yp x0).length<1099511627776,∀ v∈(rdL yp x0),bdSector v])
 | _=>none
theorem yyx:OkD Tryz.prog 216 D_zcc:=by unfold D_zcc;exact dk N216.den
end Go.Ab

namespace Go.Ab
open Go Go.Proofs
def yxk (a0:(List Int)) (a1:(List Int)) (i1:Nat) (s1:Unit):Except (Bool) (Unit):=
 (bif ((a0.getD i1 default) != (a1.getD i1 default))then .error false else .ok ())
def zid (a0:(List Int)) (a1:(List Int)):Bool:=
 (bif ((a0.length:Int) != (a1.length:Int))then false else(match yd (yxk a0 a1) (a0.length-0) 0 ()with|.error e=>e|.ok s1=>true))
namespace N247
theorem DD:DOk Tryz.prog (Go.Ab.DD []):=ye _
theorem den (a0:(List Int)) (a1:(List Int))  : Den Tryz.prog 247 [encL 1 yq a0,encL 1 yq a1] (.bool (zid a0 a1)):=by
 generalize hR:zid a0 a1=r
 unfold zid at hR
 refine di Tryz.func247 Tryz.ntmps247 Tryz.results247 ?_
 intro c hL hc hk
 obtain⟨hL0,hL1,_⟩:=hL
 have hw0:a0.length<9223372036854775808:=Nat.lt_succ_of_le (ym hL0).1
 have hw1:a1.length<9223372036854775808:=Nat.lt_succ_of_le (ym hL1).1
 clear hL0 hL1
 simp only[pars,Nat.zero_add]
 iterate 2 refine rS ?_
 refine AWP.cond rfl (fun hb => ?_) (fun hb => ?_)
 ·replace hR:=ct hR
  refine rS ?_
  refine AWP.ret ?_
  subst hR
  exact es
 ·replace hR:=cf hR
  refine rS ?_
  refine AWP.block ?_
  generalize hz1:yd (yxk a0 a1) (a0.length-0) 0 ()=z1 at hR
  refine AWP.range (yxk a0 a1) (fun i1 s1=>⟨[(0,encL 1 yq a0),(1,encL 1 yq a1),(12,.int .i64 (a0.length:Int)),(13,.int .i64 (i1:Int))],[]⟩) (fun i1 s1=>True) (a0.length) 0 () [] hz1 ot wt sm ?_
  clear hz1
  intro i1 s1 hi1 hW1 hz1
  refine rS ?_
  refine AWP.seq ?_
  refine AWP.cond rfl (fun hb => ?_) (fun hb => ?_)
  ·have hlt1:i1<a0.length:=ot
   rw[yh hlt1]at hz1;simp only[yxk]at hz1
   refine rS ?_
   refine rD 8 ?_
   refine AWP.cond rfl (fun hb => ?_) (fun hb => ?_)
   ·simp only[hb,cond_true]at hz1
    refine rS ?_
    refine AWP.ret ?_
    subst hz1
    dsimp only at hR
    subst hR
    exact es
   ·simp only[hb,cond_false]at hz1
    refine rS ?_
    exact⟨_,[],hlt1,wt,hz1,sm⟩
  ·obtain rfl:i1=a0.length:=ot
   rw[yg (Nat.le_refl _)]at hz1;subst hz1;dsimp only at hR
   refine AWP.exit ?_;refine yb ?_
   refine rS ?_
   refine AWP.ret ?_
   subst hR
   exact es
end N247
def D_zid : DF
 | [x0,x1]=>some (.bool (zid (rdL ywb x0) (rdL ywb x1)),false,[wL 1 yq ywb x0,wL 1 yq ywb x1])
 | _=>none
theorem yrx:OkD Tryz.prog 247 D_zid:=by unfold D_zid;exact dk N247.den
end Go.Ab

namespace Go.Ab
open Go Go.Proofs
theorem yhk (a b:List Int):zid a b=decide (a=b):=by
 unfold zid
 by_cases hl:a.length=b.length
 ·have h1:((a.length:Int) != (b.length:Int))=false:=by simp[hl]
  rw[h1,cond_false,y3c (b:=yxk a b) (fun j => !decide (a.getD j default=b.getD j default)) false (fun j u _ _=>by simp only[yxk,ned])]
  simp only[Nat.sub_zero,Nat.zero_add]
  rw[y4s a b hl]
  by_cases h:a=b<;>simp[h]
 ·have h1:((a.length:Int) != (b.length:Int))=true:=by simp;omega
  have h2:¬ a=b:=fun e=>hl (by rw[e])
  rw[h1,cond_true,decide_eq_false h2]
end Go.Ab

namespace Go.Ab
open Go Go.Proofs
def zbf (a0:Int):Bool:=
 (zh a0 1 100000000)
namespace N214
theorem DD:DOk Tryz.prog (Go.Ab.DD [(181,dP D_zh)]):=ya yxc.e <| ye _
theorem dn:type_of% (@D_zh.eq_1):=by and_intros<;>intros<;>rfl
theorem ol:type_of% (@zh.eq_1):=@zh.eq_1
theorem den (a0:Int)  : Den Tryz.prog 214 [.int .i64 a0] (.bool (zbf a0)):=by
 generalize hR:zbf a0=r
 unfold zbf at hR
 refine di Tryz.func214 Tryz.ntmps214 Tryz.results214 ?_
 intro c hL hc hk
 clear hL
 simp only[pars,Nat.zero_add]
 iterate 2 refine rS ?_
 refine AWP.ret ?_
 subst hR
 exact es
end N214
def D_zbf : DF
 | [x0]=>some (.bool (zbf (rdI x0)),false,[wI .i64 x0])
 | _=>none
theorem ynx:OkD Tryz.prog 214 D_zbf:=by unfold D_zbf;exact dk N214.den
end Go.Ab

namespace Go.Ab
open Go Go.Proofs
def zif (a0:Int):Bool:=
 (zh a0 1 9999)
namespace N209
theorem DD:DOk Tryz.prog (Go.Ab.DD [(181,dP D_zh)]):=ya yxc.e <| ye _
theorem dn:type_of% (@D_zh.eq_1):=by and_intros<;>intros<;>rfl
theorem ol:type_of% (@zh.eq_1):=@zh.eq_1
theorem den (a0:Int)  : Den Tryz.prog 209 [.int .i64 a0] (.bool (zif a0)):=by
 generalize hR:zif a0=r
 unfold zif at hR
 refine di Tryz.func209 Tryz.ntmps209 Tryz.results209 ?_
 intro c hL hc hk
 clear hL
 simp only[pars,Nat.zero_add]
 iterate 2 refine rS ?_
 refine AWP.ret ?_
 subst hR
 exact es
end N209
def D_zif : DF
 | [x0]=>some (.bool (zif (rdI x0)),false,[wI .i64 x0])
 | _=>none
theorem yry:OkD Tryz.prog 209 D_zif:=by unfold D_zif;exact dk N209.den
end Go.Ab

namespace Go.Ab
open Go Go.Proofs
def zrc (a0:Point):Bool:=
 ((zh a0.X 0 200000) && (zh a0.Y 0 200000))
namespace N211
theorem DD:DOk Tryz.prog (Go.Ab.DD [(181,dP D_zh)]):=ya yxc.e <| ye _
theorem dn:type_of% (@D_zh.eq_1):=by and_intros<;>intros<;>rfl
theorem ol:type_of% (@zh.eq_1):=@zh.eq_1
theorem den (a0:Point)  : Den Tryz.prog 211 [.agg (ypc a0)] (.bool (zrc a0)):=by
 generalize hR:zrc a0=r
 unfold zrc at hR
 refine di Tryz.func211 Tryz.ntmps211 Tryz.results211 ?_
 intro c hL hc hk
 clear hL
 simp only[pars,Nat.zero_add]
 iterate 2 refine rS ?_
 refine AWP.ret ?_
 subst hR
 exact es
end N211
def D_zrc : DF
 | [x0]=>some (.bool (zrc (rdG yhe x0)),false,[wG ypc yhe x0])
 | _=>none
theorem y2l:OkD Tryz.prog 211 D_zrc:=by unfold D_zrc;exact dk N211.den
end Go.Ab

namespace Go.Ab
open Go Go.Proofs
def zjf (a0:Int):Bool:=
 (zh a0 0 3000)
namespace N212
theorem DD:DOk Tryz.prog (Go.Ab.DD [(181,dP D_zh)]):=ya yxc.e <| ye _
theorem dn:type_of% (@D_zh.eq_1):=by and_intros<;>intros<;>rfl
theorem ol:type_of% (@zh.eq_1):=@zh.eq_1
theorem den (a0:Int)  : Den Tryz.prog 212 [.int .i64 a0] (.bool (zjf a0)):=by
 generalize hR:zjf a0=r
 unfold zjf at hR
 refine di Tryz.func212 Tryz.ntmps212 Tryz.results212 ?_
 intro c hL hc hk
 clear hL
 simp only[pars,Nat.zero_add]
 iterate 2 refine rS ?_
 refine AWP.ret ?_
 subst hR
 exact es
end N212
def D_zjf : DF
 | [x0]=>some (.bool (zjf (rdI x0)),false,[wI .i64 x0])
 | _=>none
theorem yu0:OkD Tryz.prog 212 D_zjf:=by unfold D_zjf;exact dk N212.den
end Go.Ab

namespace Go.Ab
open Go Go.Proofs
def zkf (a0:Character) (a1:Character):Bool:=
 (((((a0.Kind == a1.Kind) && (zid a0.Group a1.Group)) && (a0.Letter == a1.Letter)) && (a0.Colors == a1.Colors)) && (a0.Period == a1.Period))
namespace N150
theorem DD:DOk Tryz.prog (Go.Ab.DD [(247,dP D_zid)]):=ya yrx.e <| ye _
theorem dn:type_of% (@D_zid.eq_1):=by and_intros<;>intros<;>rfl
theorem den (a0:Character) (a1:Character)  : Den Tryz.prog 150 [.agg (yf a0),.agg (yf a1)] (.bool (zkf a0 a1)):=by
 generalize hR:zkf a0 a1=r
 unfold zkf at hR
 refine di Tryz.func150 Tryz.ntmps150 Tryz.results150 ?_
 intro c hL hc hk
 obtain⟨hL0,hL1,_⟩:=hL
 have hw0:bwCharacter a0:=yn a0 hL0
 have hw1:bwCharacter a1:=yn a1 hL1
 clear hL0 hL1
 simp only[pars,Nat.zero_add]
 iterate 2 refine rS ?_
 refine AWP.ret ?_
 subst hR
 exact es
end N150
def D_zkf : DF
 | [x0,x1]=>some (.bool (zkf (rdG yc x0) (rdG yc x1)),false,[wG yf yc x0,wG yf yc x1])
 | _=>none
theorem yny:OkD Tryz.prog 150 D_zkf:=by unfold D_zkf;exact dk N150.den
end Go.Ab

namespace Go.Ab
open Go Go.Proofs
def zcf (a0:Aid):Bool:=
 (((zkf a0.Light ({ Kind:=0,Group:=[],Letter:=[],Colors:=[],Period:=0:Character })) && ((a0.Sectors.length:Int) == 0)) && (a0.Intensity == 0))
namespace N213
theorem DD:DOk Tryz.prog (Go.Ab.DD [(150,dP D_zkf)]):=ya yny.e <| ye _
theorem dn:type_of% (@D_zkf.eq_1):=by and_intros<;>intros<;>rfl
theorem den (a0:Aid)  : Den Tryz.prog 213 [.agg (eAid a0)] (.bool (zcf a0)):=by
 generalize hR:zcf a0=r
 unfold zcf at hR
 refine di Tryz.func213 Tryz.ntmps213 Tryz.results213 ?_
 intro c hL hc hk
 obtain⟨hL0,_⟩:=hL
 have hw0:bwAid a0:=y7c a0 hL0
 clear hL0
 simp only[pars,Nat.zero_add]
 iterate 2 refine rS ?_
 refine AWP.ret ?_
 subst hR
 exact es
end N213
def D_zcf : DF
 | [x0]=>some (.bool (zcf (rdG dAid x0)),false,[wG eAid dAid x0])
 | _=>none
theorem y0y:OkD Tryz.prog 213 D_zcf:=by unfold D_zcf;exact dk N213.den
end Go.Ab

namespace Go.Ab
open Go Go.Proofs
def zub (a0:Int):(List UInt8):=
 (zhb a0 ([[],[70],[79,99],[73,115,111],[70,108],[76,70,108],[81],[86,81],[77,111]]:List (List UInt8)))
namespace N263
theorem DD:DOk Tryz.prog (Go.Ab.DD [(90,dP D_zhb)]):=ya ytg.e <| ye _
theorem dn:type_of% (@D_zhb.eq_1):=by and_intros<;>intros<;>rfl
theorem lx {p:Prop} (h:p:=by(exact lxx);first|done|fail):p:=h
theorem den (a0:Int)  : Den Tryz.prog 263 [.int .i64 a0] (.str (zub a0)):=by
 generalize hR:zub a0=r
 unfold zub at hR
 refine di Tryz.func263 Tryz.ntmps263 Tryz.results263 ?_
 intro c hL hc hk
 clear hL
 simp only[pars,Nat.zero_add]
 iterate 2 refine rS ?_
 refine AWP.ret ?_
 subst hR
 exact es
end N263
def D_zub : DF
 | [x0]=>some (.str (zub (rdI x0)),false,[wI .i64 x0])
 | _=>none
theorem y7s:OkD Tryz.prog 263 D_zub:=by unfold D_zub;exact dk N263.den
end Go.Ab
