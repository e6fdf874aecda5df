/- A part of a proof: walks of functions and lemmas of our own. No conditions. -/
import Derived.Test.YtopoomikfjodkaaGreatDoorRAl
import Derived.Test.YtopoomikfjodkaaGreatDoorRAp
import Derived.Test.YtopoomikfjodkaaGreatDoorRAq
import Derived.Test.YtopoomikfjodkaaGreatDoorRAi
set_option linter.unusedSectionVars false
set_option linter.unusedVariables false
set_option linter.unusedSimpArgs false
set_option maxHeartbeats 1000000
namespace Go.Ab
open Go Go.Proofs
def zl (a0:Int):(List UInt8):=
 (zfi a0 10)
namespace N107
theorem DD:DOk Tryz.prog (Go.Ab.DD [(219,dP D_zfi)]):=ya y73.e <| yc _
theorem dn:type_of% (@D_zfi.eq_1):=by and_intros<;>intros<;>rfl
theorem den (a0:Int) (hp0 : -9223372036854775808≤a0) (hp1:a0≤9223372036854775807):Den Tryz.prog 107 [.int .i64 a0] (.str (zl a0)):=by
 generalize hR:zl a0=r
 unfold zl at hR
 refine di Tryz.func107 Tryz.ntmps107 Tryz.results107 ?_
 intro c hL hc hk
 clear hL
 simp only[pars,Nat.zero_add]
 iterate 2 refine rS ?_
 refine AWP.ret ?_
 subst hR
 exact es
end N107
def D_zl : DF
 | [x0]=>some (.str (zl (rdI x0)),false,[wI .i64 x0,-9223372036854775808≤(rdI x0),(rdI x0)≤9223372036854775807])
 | _=>none
theorem yxe:OkD Tryz.prog 107 D_zl:=by unfold D_zl;exact dk N107.den
end Go.Ab

namespace Go.Ab
open Go Go.Proofs
theorem yut (n:Int):(Go.Lib.itoa n).length≤n.natAbs+2:=by
 unfold Go.Lib.itoa
 split
 ·have:=ywd n.natAbs
  simp only[List.length_cons]
  omega
 ·have:=ywd n.toNat
  omega
theorem y66 (n:Int):zl n=Go.Lib.itoa n:=rfl
theorem ycc (n:Int):(zl n).length≤n.natAbs+2:=yut n
end Go.Ab

namespace Go.Ab
open Go Go.Proofs
def zxc (a0:Int) (a1:Int):Bool:=
 decide (a0≤a1)
namespace N160
theorem DD:DOk Tryz.prog (Go.Ab.DD []):=yc _
theorem den (a0:Int) (a1:Int)  : Den Tryz.prog 160 [.int .i64 a0,.int .i64 a1] (.bool (zxc a0 a1)):=by
 generalize hR:zxc a0 a1=r
 unfold zxc at hR
 refine di Tryz.func160 Tryz.ntmps160 Tryz.results160 ?_
 intro c hL hc hk
 clear hL
 simp only[pars,Nat.zero_add]
 iterate 2 refine rS ?_
 refine AWP.ret ?_
 subst hR
 exact es
end N160
def D_zxc : DF
 | [x0,x1]=>some (.bool (zxc (rdI x0) (rdI x1)),false,[wI .i64 x0,wI .i64 x1])
 | _=>none
theorem y3k:OkD Tryz.prog 160 D_zxc:=by unfold D_zxc;exact dk N160.den
end Go.Ab

namespace Go.Ab
open Go Go.Proofs
def zsh (a0:(List UInt8)):Bool:=
 (((a0.length:Int) == 1) && (zpc [87,82,71,89] a0))
namespace N334
theorem DD:DOk Tryz.prog (Go.Ab.DD [(286,dP D_zpc)]):=ya yuy.e <| yc _
theorem dn:type_of% (@D_zpc.eq_1):=by and_intros<;>intros<;>rfl
theorem den (a0:(List UInt8))  : Den Tryz.prog 334 [.str a0] (.bool (zsh a0)):=by
 generalize hR:zsh a0=r
 unfold zsh at hR
 refine di Tryz.func334 Tryz.ntmps334 Tryz.results334 ?_
 intro c hL hc hk
 obtain⟨hL0,_⟩:=hL
 have hw0:a0.length<9223372036854775808:=Nat.lt_succ_of_le hL0
 clear hL0
 simp only[pars,Nat.zero_add]
 iterate 2 refine rS ?_
 refine AWP.ret ?_
 subst hR
 exact es
end N334
def D_zsh : DF
 | [x0]=>some (.bool (zsh (rdS x0)),false,[wS x0])
 | _=>none
theorem yo6:OkD Tryz.prog 334 D_zsh:=by unfold D_zsh;exact dk N334.den
end Go.Ab

namespace Go.Ab
open Go Go.Proofs
def ze (a0:Int) (a1:Int) (a2:Int):Bool:=
 (decide (a1≤a0) && decide (a0≤a2))
namespace N181
theorem DD:DOk Tryz.prog (Go.Ab.DD []):=yc _
theorem den (a0:Int) (a1:Int) (a2:Int)  : Den Tryz.prog 181 [.int .i64 a0,.int .i64 a1,.int .i64 a2] (.bool (ze a0 a1 a2)):=by
 generalize hR:ze a0 a1 a2=r
 unfold ze at hR
 refine di Tryz.func181 Tryz.ntmps181 Tryz.results181 ?_
 intro c hL hc hk
 clear hL
 simp only[pars,Nat.zero_add]
 iterate 2 refine rS ?_
 refine AWP.ret ?_
 subst hR
 exact es
end N181
def D_ze : DF
 | [x0,x1,x2]=>some (.bool (ze (rdI x0) (rdI x1) (rdI x2)),false,[wI .i64 x0,wI .i64 x1,wI .i64 x2])
 | _=>none
theorem y9b:OkD Tryz.prog 181 D_ze:=by unfold D_ze;exact dk N181.den
end Go.Ab

namespace Go.Ab
open Go Go.Proofs
def zjg (a0:Int):Bool:=
 (ze a0 0 359)
namespace N94
theorem DD:DOk Tryz.prog (Go.Ab.DD [(181,dP D_ze)]):=ya y9b.e <| yc _
theorem dn:type_of% (@D_ze.eq_1):=by and_intros<;>intros<;>rfl
theorem ol:type_of% (@ze.eq_1):=@ze.eq_1
theorem den (a0:Int)  : Den Tryz.prog 94 [.int .i64 a0] (.bool (zjg a0)):=by
 generalize hR:zjg a0=r
 unfold zjg at hR
 refine di Tryz.func94 Tryz.ntmps94 Tryz.results94 ?_
 intro c hL hc hk
 clear hL
 simp only[pars,Nat.zero_add]
 iterate 2 refine rS ?_
 refine AWP.ret ?_
 subst hR
 exact es
end N94
def D_zjg : DF
 | [x0]=>some (.bool (zjg (rdI x0)),false,[wI .i64 x0])
 | _=>none
theorem yiz:OkD Tryz.prog 94 D_zjg:=by unfold D_zjg;exact dk N94.den
end Go.Ab

namespace Go.Ab
open Go Go.Proofs
def zth (a0:Sector):Bool:=
 (((zjg a0.From) && (zjg a0.To)) && (zsh a0.Color))
namespace N283
theorem DD:DOk Tryz.prog (Go.Ab.DD [(334,dP D_zsh),(94,dP D_zjg)]):=ya yo6.e <| ya yiz.e <| yc _
theorem dn:type_of% (And.intro @D_zsh.eq_1 <| @D_zjg.eq_1):=by and_intros<;>intros<;>rfl
theorem den (a0:Sector)  : Den Tryz.prog 283 [.agg (yk a0)] (.bool (zth a0)):=by
 generalize hR:zth a0=r
 unfold zth at hR
 refine di Tryz.func283 Tryz.ntmps283 Tryz.results283 ?_
 intro c hL hc hk
 obtain⟨hL0,_⟩:=hL
 have hw0:bwSector a0:=yt a0 hL0
 clear hL0
 simp only[pars,Nat.zero_add]
 iterate 2 refine rS ?_
 refine AWP.ret ?_
 subst hR
 exact es
end N283
def D_zth : DF
 | [x0]=>some (.bool (zth (rdG yq x0)),false,[wG yk yq x0])
 | _=>none
theorem ye6:OkD Tryz.prog 283 D_zth:=by unfold D_zth;exact dk N283.den
end Go.Ab

namespace Go.Ab
open Go Go.Proofs
def zhg (a0:Int) (a1:Int):Int:=
 (IntKind.wrap .i64 ((a0.tmod a1)+a1)).tmod a1
namespace N335
theorem DD:DOk Tryz.prog (Go.Ab.DD []):=yc _
theorem den (a0:Int) (a1:Int) (hp0:0<a1):Den Tryz.prog 335 [.int .i64 a0,.int .i64 a1] (.int .i64 (zhg a0 a1)):=by
 generalize hR:zhg a0 a1=r
 unfold zhg at hR
 refine di Tryz.func335 Tryz.ntmps335 Tryz.results335 ?_
 intro c hL hc hk
 clear hL
 simp only[pars,Nat.zero_add]
 iterate 2 refine rS ?_
 refine AWP.ret ?_
 subst hR
 exact es
end N335
def D_zhg : DF
 | [x0,x1]=>some (.int .i64 (zhg (rdI x0) (rdI x1)),false,[wI .i64 x0,wI .i64 x1,0<(rdI x1)])
 | _=>none
theorem yly:OkD Tryz.prog 335 D_zhg:=by unfold D_zhg;exact dk N335.den
end Go.Ab

namespace Go.Ab
open Go Go.Proofs
def zbf (a0:Sector):Int:=
 IntKind.wrap .i64 ((zhg (IntKind.wrap .i64 ((IntKind.wrap .i64 (a0.To-a0.From))-1)) 360)+1)
namespace N285
theorem DD:DOk Tryz.prog (Go.Ab.DD [(335,dP D_zhg)]):=ya yly.e <| yc _
theorem dn:type_of% (@D_zhg.eq_1):=by and_intros<;>intros<;>rfl
theorem den (a0:Sector)  : Den Tryz.prog 285 [.agg (yk a0)] (.int .i64 (zbf a0)):=by
 generalize hR:zbf a0=r
 unfold zbf at hR
 refine di Tryz.func285 Tryz.ntmps285 Tryz.results285 ?_
 intro c hL hc hk
 obtain⟨hL0,_⟩:=hL
 have hw0:bwSector a0:=yt a0 hL0
 clear hL0
 simp only[pars,Nat.zero_add]
 iterate 2 refine rS ?_
 refine AWP.ret ?_
 subst hR
 exact es
end N285
def D_zbf : DF
 | [x0]=>some (.int .i64 (zbf (rdG yq x0)),false,[wG yk yq x0])
 | _=>none
theorem y8x:OkD Tryz.prog 285 D_zbf:=by unfold D_zbf;exact dk N285.den
end Go.Ab

namespace Go.Ab
open Go Go.Proofs
def ztg (a0:Sector) (a1:Int):Bool:=
 decide ((zhg (IntKind.wrap .i64 (a1-a0.From)) 360)<(zbf a0))
namespace N284
theorem DD:DOk Tryz.prog (Go.Ab.DD [(285,dP D_zbf),(335,dP D_zhg)]):=ya y8x.e <| ya yly.e <| yc _
theorem dn:type_of% (And.intro @D_zbf.eq_1 <| @D_zhg.eq_1):=by and_intros<;>intros<;>rfl
theorem den (a0:Sector) (a1:Int)  : Den Tryz.prog 284 [.agg (yk a0),.int .i64 a1] (.bool (ztg a0 a1)):=by
 generalize hR:ztg a0 a1=r
 unfold ztg at hR
 refine di Tryz.func284 Tryz.ntmps284 Tryz.results284 ?_
 intro c hL hc hk
 obtain⟨hL0,hL1,_⟩:=hL
 have hw0:bwSector a0:=yt a0 hL0
 clear hL0 hL1
 simp only[pars,Nat.zero_add]
 refine rS ?_
 refine rD 6 ?_
 refine AWP.ret ?_
 subst hR
 exact es
end N284
def D_ztg : DF
 | [x0,x1]=>some (.bool (ztg (rdG yq x0) (rdI x1)),false,[wG yk yq x0,wI .i64 x1])
 | _=>none
theorem yg5:OkD Tryz.prog 284 D_ztg:=by unfold D_ztg;exact dk N284.den
end Go.Ab

namespace Go.Ab
open Go Go.Proofs
def yjk (a0:(List Sector)) (i1:Nat) (s1:Int) (i2:Nat) (s2:Unit):Except (Bool) (Unit):=
 (bif (((i2:Int) != (i1:Int)) && (ztg (a0.getD i1 default) ((a0.getD i2 default).From)))then .error false else .ok ())
def yaj (a0:(List Sector)) (i1:Nat) (s1:Int):Except (Bool) (Int):=
 (bif ((!(zth (a0.getD i1 default))) || (decide (0<(i1:Int)) && decide (((a0.getD i1 default).From)≤((a0.getD ((IntKind.wrap .i64 ((i1:Int)-1)).toNat) default).From))))then .error false else(match ye (yjk a0 i1 s1) (a0.length-0) 0 ()with|.error e=>.error e|.ok s2=>.ok (IntKind.wrap .i64 (s1+(zbf (a0.getD i1 default))))))
def zjb (a0:(List Sector)):Bool:=
 (match ye (yaj a0) (a0.length-0) 0 0 with|.error e=>e|.ok s1=>((zxc (a0.length:Int) 12) && decide (s1≤360)))
namespace N215
theorem DD:DOk Tryz.prog (Go.Ab.DD [(160,dP D_zxc),(283,dP D_zth),(284,dP D_ztg),(285,dP D_zbf)]):=ya y3k.e <| ya ye6.e <| ya yg5.e <| ya y8x.e <| yc _
theorem dn:type_of% (And.intro @D_zxc.eq_1 <| And.intro @D_zth.eq_1 <| And.intro @D_ztg.eq_1 <| @D_zbf.eq_1):=by and_intros<;>intros<;>rfl
theorem den (a0:(List Sector))  : Den Tryz.prog 215 [encL 3 yk a0] (.bool (zjb a0)):=by
 generalize hR:zjb a0=r
 unfold zjb at hR
 refine di Tryz.func215 Tryz.ntmps215 Tryz.results215 ?_
 intro c hL hc hk
 obtain⟨hL0,_⟩:=hL
 have hw0:a0.length<9223372036854775808:=Nat.lt_succ_of_le (yf hL0).1
 have hw1:∀ v∈a0,bwSector v:=fun v hv=>yt v ((yf hL0).2 v hv)
 clear hL0
 simp only[pars,Nat.zero_add]
 iterate 3 refine rS ?_
 refine AWP.block ?_
 generalize hz1:ye (yaj a0) (a0.length-0) 0 0=z1 at hR
 refine AWP.range (yaj a0) (fun i1 s1=>⟨[(0,encL 3 yk a0),(3,.int .i64 s1),(8,encL 3 yk a0),(9,.int .i64 (a0.length:Int)),(10,.int .i64 (i1:Int))],[]⟩) (fun i1 s1=>True) (a0.length) 0 0 [] hz1 ot wt sm ?_
 clear hz1
 intro i1 s1 hi1 hW1 hz1
 refine rS ?_
 refine AWP.seq ?_
 refine AWP.cond rfl (fun hb => ?_) (fun hb => ?_)
 ·have hlt1:i1<a0.length:=ot
  rw[yj hlt1]at hz1;simp only[yaj]at hz1
  refine rS ?_
  refine rD 18 ?_
  refine AWP.cond rfl (fun hb => ?_) (fun hb => ?_)
  ·simp only[hb,cond_true]at hz1
   refine rS ?_
   refine AWP.ret ?_
   subst hz1
   dsimp only at hR
   subst hR
   exact es
  ·simp only[hb,cond_false]at hz1
   refine rS ?_
   refine AWP.block ?_
   generalize hz2:ye (yjk a0 i1 s1) (a0.length-0) 0 ()=z2 at hz1
   refine AWP.range (yjk a0 i1 s1) (fun i2 s2=>⟨[(0,encL 3 yk a0),(3,.int .i64 s1),(4,.int .i64 (i1:Int)),(5,.ptr 0 0),(8,encL 3 yk a0),(9,.int .i64 (a0.length:Int)),(10,.int .i64 (i1:Int)),(33,encL 3 yk a0),(34,.int .i64 (a0.length:Int)),(35,.int .i64 (i2:Int))],[.box [.int .i64 ((a0.getD i1 default).From),.int .i64 ((a0.getD i1 default).To),.str ((a0.getD i1 default).Color)]]⟩) (fun i2 s2=>True) (a0.length) 0 () [0] hz2 ot wt sm ?_
   clear hz2
   intro i2 s2 hi2 hW2 hz2
   refine rS ?_
   refine AWP.seq ?_
   refine AWP.cond rfl (fun hb => ?_) (fun hb => ?_)
   ·have hlt2:i2<a0.length:=ot
    rw[yj hlt2]at hz2;simp only[yjk]at hz2
    iterate 2 refine rS ?_
    refine AWP.cond rfl (fun hb => ?_) (fun hb => ?_)
    ·simp only[hb,cond_true]at hz2
     refine rS ?_
     refine AWP.ret ?_
     subst hz2
     dsimp only at hz1
     subst hz1
     dsimp only at hR
     subst hR
     exact es
    ·simp only[hb,cond_false]at hz2
     refine rS ?_
     exact⟨_,[0],hlt2,wt,hz2,sm⟩
   ·obtain rfl:i2=a0.length:=ot
    rw[yi (Nat.le_refl _)]at hz2;subst hz2;dsimp only at hz1
    refine AWP.exit ?_;refine yb ?_
    iterate 2 refine rS ?_
    exact⟨_,[],hlt1,wt,hz1,sm⟩
 ·obtain rfl:i1=a0.length:=ot
  rw[yi (Nat.le_refl _)]at hz1;subst hz1;dsimp only at hR
  refine AWP.exit ?_;refine yb ?_
  refine rS ?_
  refine AWP.ret ?_
  subst hR
  exact es
end N215
def D_zjb : DF
 | [x0]=>some (.bool (zjb (rdL yq x0)),false,[wL 3 yk yq x0])
 | _=>none
theorem y4p:OkD Tryz.prog 215 D_zjb:=by unfold D_zjb;exact dk N215.den
end Go.Ab

namespace Go.Ab
open Go Go.Proofs
def zkd (a0:Int):Bool:=
 (ze a0 1 9)
namespace N84
theorem DD:DOk Tryz.prog (Go.Ab.DD [(181,dP D_ze)]):=ya y9b.e <| yc _
theorem dn:type_of% (@D_ze.eq_1):=by and_intros<;>intros<;>rfl
theorem ol:type_of% (@ze.eq_1):=@ze.eq_1
theorem den (a0:Int)  : Den Tryz.prog 84 [.int .i64 a0] (.bool (zkd a0)):=by
 generalize hR:zkd a0=r
 unfold zkd at hR
 refine di Tryz.func84 Tryz.ntmps84 Tryz.results84 ?_
 intro c hL hc hk
 clear hL
 simp only[pars,Nat.zero_add]
 iterate 2 refine rS ?_
 refine AWP.ret ?_
 subst hR
 exact es
end N84
def D_zkd : DF
 | [x0]=>some (.bool (zkd (rdI x0)),false,[wI .i64 x0])
 | _=>none
theorem y4k:OkD Tryz.prog 84 D_zkd:=by unfold D_zkd;exact dk N84.den
end Go.Ab

namespace Go.Ab
open Go Go.Proofs
def zug (a0:Int) (a1:Int):Bool:=
 (decide (0≤a0) && decide (a0<a1))
namespace N188
theorem DD:DOk Tryz.prog (Go.Ab.DD []):=yc _
theorem den (a0:Int) (a1:Int)  : Den Tryz.prog 188 [.int .i64 a0,.int .i64 a1] (.bool (zug a0 a1)):=by
 generalize hR:zug a0 a1=r
 unfold zug at hR
 refine di Tryz.func188 Tryz.ntmps188 Tryz.results188 ?_
 intro c hL hc hk
 clear hL
 simp only[pars,Nat.zero_add]
 iterate 2 refine rS ?_
 refine AWP.ret ?_
 subst hR
 exact es
end N188
def D_zug : DF
 | [x0,x1]=>some (.bool (zug (rdI x0) (rdI x1)),false,[wI .i64 x0,wI .i64 x1])
 | _=>none
theorem yf7:OkD Tryz.prog 188 D_zug:=by unfold D_zug;exact dk N188.den
end Go.Ab

namespace Go.Ab
open Go Go.Proofs
def zkb (a0:Int) (a1:(List (List UInt8))):(List UInt8):=
 (bif (!(zug a0 (a1.length:Int)))then[]else(a1.getD ((a0).toNat) default))
namespace N90
theorem DD:DOk Tryz.prog (Go.Ab.DD [(188,dP D_zug)]):=ya yf7.e <| yc _
theorem dn:type_of% (@D_zug.eq_1):=by and_intros<;>intros<;>rfl
theorem ol:type_of% (@zug.eq_1):=@zug.eq_1
theorem den (a0:Int) (a1:(List (List UInt8)))  : Den Tryz.prog 90 [.int .i64 a0,encL 1 eS a1] (.str (zkb a0 a1)):=by
 generalize hR:zkb a0 a1=r
 unfold zkb at hR
 refine di Tryz.func90 Tryz.ntmps90 Tryz.results90 ?_
 intro c hL hc hk
 obtain⟨hL0,hL1,_⟩:=hL
 have hw0:a1.length<9223372036854775808:=Nat.lt_succ_of_le (yf hL1).1
 have hw1:∀ v∈a1,bwS v:=fun v hv=>y0q v ((yf hL1).2 v hv)
 clear hL0 hL1
 simp only[pars,Nat.zero_add]
 iterate 2 refine rS ?_
 refine AWP.cond rfl (fun hb => ?_) (fun hb => ?_)
 ·replace hR:=ct hR
  refine rS ?_
  refine AWP.ret ?_
  subst hR
  exact es
 ·replace hR:=cf hR
  refine rS ?_
  refine AWP.ret ?_
  subst hR
  exact es
end N90
def D_zkb : DF
 | [x0,x1]=>some (.str (zkb (rdI x0) (rdL dS x1)),false,[wI .i64 x0,wL 1 eS dS x1])
 | _=>none
theorem yvf:OkD Tryz.prog 90 D_zkb:=by unfold D_zkb;exact dk N90.den
end Go.Ab

namespace Go.Ab
open Go Go.Proofs
def zfe (a0:Int):(List UInt8):=
 (zkb a0 ([[],[82],[71],[66,89],[66,89,66],[89,66],[89,66,89],[66,82,66],[82,87],[89]]:List (List UInt8)))
namespace N85
theorem DD:DOk Tryz.prog (Go.Ab.DD [(90,dP D_zkb)]):=ya yvf.e <| yc _
theorem dn:type_of% (@D_zkb.eq_1):=by and_intros<;>intros<;>rfl
theorem lx {p:Prop} (h:p:=by(exact lxx);first|done|fail):p:=h
theorem den (a0:Int)  : Den Tryz.prog 85 [.int .i64 a0] (.str (zfe a0)):=by
 generalize hR:zfe a0=r
 unfold zfe at hR
 refine di Tryz.func85 Tryz.ntmps85 Tryz.results85 ?_
 intro c hL hc hk
 clear hL
 simp only[pars,Nat.zero_add]
 iterate 2 refine rS ?_
 refine AWP.ret ?_
 subst hR
 exact es
end N85
def D_zfe : DF
 | [x0]=>some (.str (zfe (rdI x0)),false,[wI .i64 x0])
 | _=>none
theorem yti:OkD Tryz.prog 85 D_zfe:=by unfold D_zfe;exact dk N85.den
end Go.Ab

namespace Go.Ab
open Go Go.Proofs
theorem y7x {P:List UInt8→Prop} (n:Int) (l:List (List UInt8)) (h0:P []) (h:∀ y∈l,P y):P (zkb n l):=by
 unfold zkb
 cases hb:zug n (l.length:Int)with
 | false=>exact h0
 | true=>
  simp only[Bool.not_true,cond_false]
  rw[List.getD_eq_getElem?_getD]
  by_cases hi:n.toNat<l.length
  ·rw[List.getElem?_eq_getElem hi];exact h _ (List.getElem_mem hi)
  ·rw[List.getElem?_eq_none (by omega)];exact h0
end Go.Ab

namespace Go.Ab
open Go Go.Proofs
def zhc (a0:Int):(List (List UInt8)):=
 (zgi (zkb a0 ([[],[99,97,110,32,112,105,108,108,97,114,32,115,112,97,114],[99,111,110,101,32,112,105,108,108,97,114,32,115,112,97,114],[112,105,108,108,97,114,32,115,112,97,114],[112,105,108,108,97,114,32,115,112,97,114],[112,105,108,108,97,114,32,115,112,97,114],[112,105,108,108,97,114,32,115,112,97,114],[112,105,108,108,97,114,32,115,112,97,114],[115,112,104,101,114,101,32,112,105,108,108,97,114,32,115,112,97,114],[99,97,110,32,99,111,110,101,32,112,105,108,108,97,114,32,115,112,97,114,32,115,112,104,101,114,101]]:List (List UInt8))))
namespace N87
theorem DD:DOk Tryz.prog (Go.Ab.DD [(183,dP D_zgi),(90,dP D_zkb)]):=ya yk5.e <| ya yvf.e <| yc _
theorem dn:type_of% (And.intro @D_zgi.eq_1 <| @D_zkb.eq_1):=by and_intros<;>intros<;>rfl
theorem o0 {p:Prop} (h:p:=by(first|(and_intros<;>first|exact y7x (P:=fun y=>y.length≤1048576) _ _ (by simp) (by simp)|exact y7x (P:=fun y=>∀ x∈y,x.toNat<128) _ _ (by simp) (by simp)));first|done|fail):p:=h
theorem lx {p:Prop} (h:p:=by(exact lxx);first|done|fail):p:=h
theorem den (a0:Int)  : Den Tryz.prog 87 [.int .i64 a0] (ownL 9 1 eS (zhc a0)):=by
 generalize hR:zhc a0=r
 unfold zhc at hR
 refine di Tryz.func87 Tryz.ntmps87 Tryz.results87 ?_
 intro c hL hc hk
 clear hL
 simp only[pars,Nat.zero_add]
 iterate 2 refine rS ?_
 refine AWP.ret ?_
 subst hR
 exact es
end N87
def D_zhc : DF
 | [x0]=>some (ownL 9 1 eS (zhc (rdI x0)),false,[wI .i64 x0])
 | _=>none
def Dz_zhc : DF
 | [x0]=>some (ownL 9 1 eS (zhc (rdI x0)),true,[wI .i64 x0])
 | _=>none
theorem yep:OkD Tryz.prog 87 D_zhc:=by unfold D_zhc;exact dk N87.den
theorem yft:OkD Tryz.prog 87 Dz_zhc:=by unfold Dz_zhc;exact dk N87.den
end Go.Ab

namespace Go.Ab
open Go Go.Proofs
def zge (a0:Int):(List UInt8):=
 (zkb a0 ([[],[99,97,110],[99,111,110,101],[117,112],[98,97,115,101],[100,111,119,110],[112,111,105,110,116],[98,97,108,108,115],[98,97,108,108],[99,114,111,115,115]]:List (List UInt8)))
namespace N88
theorem DD:DOk Tryz.prog (Go.Ab.DD [(90,dP D_zkb)]):=ya yvf.e <| yc _
theorem dn:type_of% (@D_zkb.eq_1):=by and_intros<;>intros<;>rfl
theorem lx {p:Prop} (h:p:=by(exact lxx);first|done|fail):p:=h
theorem den (a0:Int)  : Den Tryz.prog 88 [.int .i64 a0] (.str (zge a0)):=by
 generalize hR:zge a0=r
 unfold zge at hR
 refine di Tryz.func88 Tryz.ntmps88 Tryz.results88 ?_
 intro c hL hc hk
 clear hL
 simp only[pars,Nat.zero_add]
 iterate 2 refine rS ?_
 refine AWP.ret ?_
 subst hR
 exact es
end N88
def D_zge : DF
 | [x0]=>some (.str (zge (rdI x0)),false,[wI .i64 x0])
 | _=>none
theorem y8h:OkD Tryz.prog 88 D_zge:=by unfold D_zge;exact dk N88.den
end Go.Ab

namespace Go.Ab
open Go Go.Proofs
def zdc (a0:Mark):Bool:=
 (bif (a0.Kind == 0 && (a0.Colors == [] && (a0.Shape == [] && a0.Topmark == [])))then true else((((zkd a0.Kind) && (a0.Colors == (zfe a0.Kind))) && (zae (zhc a0.Kind) a0.Shape)) && ((a0.Topmark == []) || (a0.Topmark == (zge a0.Kind)))))
namespace N17
theorem DD:DOk Tryz.prog (Go.Ab.DD [(84,dP D_zkd),(85,dP D_zfe),(86,dP D_zae),(87,dP D_zhc),(88,dP D_zge)]):=ya y4k.e <| ya yti.e <| ya yvi.e <| ya yep.e <| ya y8h.e <| yc _
theorem DZ:DOk Tryz.prog (Go.Ab.DD [(84,dP D_zkd),(85,dP D_zfe),(86,dP D_zae),(87,dP Dz_zhc),(88,dP D_zge)]):=ya y4k.e <| ya yti.e <| ya yvi.e <| ya yft.e <| ya y8h.e <| yc _
theorem dn:type_of% (And.intro @D_zkd.eq_1 <| And.intro @D_zfe.eq_1 <| And.intro @D_zae.eq_1 <| And.intro @D_zhc.eq_1 <| And.intro @D_zge.eq_1 <| @Dz_zhc.eq_1):=by and_intros<;>intros<;>rfl
theorem den (a0:Mark) (hb0:bdMark a0):Den Tryz.prog 17 [.agg (y1c a0)] (.bool (zdc a0)):=by
 generalize hR:zdc a0=r
 unfold zdc at hR
 refine di Tryz.func17 Tryz.ntmps17 Tryz.results17 ?_
 intro c hL hc hk
 obtain⟨hL0,_⟩:=hL
 have hw0:bwMark a0:=y0d a0 hL0
 clear hL0
 simp only[pars,Nat.zero_add]
 iterate 2 refine rS ?_
 refine AWP.cond rfl (fun hb => ?_) (fun hb => ?_)
 ·replace hR:=ct hR
  refine rS ?_
  refine AWP.ret ?_
  subst hR
  exact es
 ·replace hR:=cf hR
  refine rZ 32 ?_
  refine AWP.ret ?_
  subst hR
  exact es
end N17
def D_zdc : DF
 | [x0]=>some (.bool (zdc (rdG ybf x0)),false,[wG y1c ybf x0,bdMark (rdG ybf x0)])
 | _=>none
theorem yri:OkD Tryz.prog 17 D_zdc:=by unfold D_zdc;exact dk N17.den
end Go.Ab

namespace Go.Ab
open Go Go.Proofs
def zbi (a0:Int):Bool:=
 (decide (48≤a0) && decide (a0≤57))
namespace N282
theorem DD:DOk Tryz.prog (Go.Ab.DD []):=yc _
theorem den (a0:Int)  : Den Tryz.prog 282 [.int .u8 a0] (.bool (zbi a0)):=by
 generalize hR:zbi a0=r
 unfold zbi at hR
 refine di Tryz.func282 Tryz.ntmps282 Tryz.results282 ?_
 intro c hL hc hk
 clear hL
 simp only[pars,Nat.zero_add]
 iterate 2 refine rS ?_
 refine AWP.ret ?_
 subst hR
 exact es
end N282
def D_zbi : DF
 | [x0]=>some (.bool (zbi (rdI x0)),false,[wI .u8 x0])
 | _=>none
theorem ys7:OkD Tryz.prog 282 D_zbi:=by unfold D_zbi;exact dk N282.den
end Go.Ab

namespace Go.Ab
open Go Go.Proofs
def y6x (a0:(List UInt8)) (i1:Nat) (s1:Unit):Except (Bool) (Unit):=
 (bif ((!(decide (97≤((a0.getD i1 0).toNat:Int)) && decide (((a0.getD i1 0).toNat:Int)≤122))) && (((i1:Int) == 0) || (!(zbi ((a0.getD i1 0).toNat:Int)))))then .error false else .ok ())
def zpf (a0:(List UInt8)):Bool:=
 (match ye (y6x a0) (a0.length-0) 0 ()with|.error e=>e|.ok s1=>((a0 != []) && (zxc (a0.length:Int) 10)))
namespace N210
theorem DD:DOk Tryz.prog (Go.Ab.DD [(160,dP D_zxc),(282,dP D_zbi)]):=ya y3k.e <| ya ys7.e <| yc _
theorem dn:type_of% (And.intro @D_zxc.eq_1 <| @D_zbi.eq_1):=by and_intros<;>intros<;>rfl
theorem den (a0:(List UInt8))  : Den Tryz.prog 210 [.str a0] (.bool (zpf a0)):=by
 generalize hR:zpf a0=r
 unfold zpf at hR
 refine di Tryz.func210 Tryz.ntmps210 Tryz.results210 ?_
 intro c hL hc hk
 obtain⟨hL0,_⟩:=hL
 have hw0:a0.length<9223372036854775808:=Nat.lt_succ_of_le hL0
 clear hL0
 simp only[pars,Nat.zero_add]
 iterate 2 refine rS ?_
 refine AWP.block ?_
 generalize hz1:ye (y6x a0) (a0.length-0) 0 ()=z1 at hR
 refine AWP.range (y6x a0) (fun i1 s1=>⟨[(0,.str a0),(3,.int .i64 (i1:Int))],[]⟩) (fun i1 s1=>True) (a0.length) 0 () [] hz1 ot wt sm ?_
 clear hz1
 intro i1 s1 hi1 hW1 hz1
 refine rS ?_
 refine AWP.cond rfl (fun hb => ?_) (fun hb => ?_)
 ·have hlt1:i1<a0.length:=ot
  rw[yj hlt1]at hz1;simp only[y6x]at hz1
  iterate 2 refine rS ?_
  refine AWP.cond rfl (fun hb => ?_) (fun hb => ?_)
  ·simp only[hb,cond_true]at hz1
   refine rS ?_
   refine AWP.ret ?_
   subst hz1
   dsimp only at hR
   subst hR
   exact es
  ·simp only[hb,cond_false]at hz1
   refine rS ?_
   exact⟨_,[],hlt1,wt,hz1,sm⟩
 ·obtain rfl:i1=a0.length:=ot
  rw[yi (Nat.le_refl _)]at hz1;subst hz1;dsimp only at hR
  refine AWP.exit ?_;refine yb ?_
  refine rS ?_
  refine AWP.ret ?_
  subst hR
  exact es
end N210
def D_zpf : DF
 | [x0]=>some (.bool (zpf (rdS x0)),false,[wS x0])
 | _=>none
theorem y45:OkD Tryz.prog 210 D_zpf:=by unfold D_zpf;exact dk N210.den
end Go.Ab

namespace Go.Ab
open Go Go.Proofs
def yer (a0:(List Int)) (i1:Nat) (s1:Int):Except (Bool) (Int):=
 (bif (!(ze (a0.getD i1 default) 1 9))then .error false else .ok (IntKind.wrap .i64 (s1+(a0.getD i1 default))))
def zve (a0:(List Int)):Bool:=
 (match ye (yer a0) (a0.length-0) 0 0 with|.error e=>e|.ok s1=>(((zxc (a0.length:Int) 4) && decide (s1≤12)) && (!(zuc a0 ([1]:List Int)))))
namespace N266
theorem DD:DOk Tryz.prog (Go.Ab.DD [(160,dP D_zxc),(181,dP D_ze),(93,dP D_zuc)]):=ya y3k.e <| ya y9b.e <| ya yap.e <| yc _
theorem dn:type_of% (And.intro @D_zxc.eq_1 <| And.intro @D_ze.eq_1 <| @D_zuc.eq_1):=by and_intros<;>intros<;>rfl
theorem ol:type_of% (@ze.eq_1):=@ze.eq_1
theorem den (a0:(List Int))  : Den Tryz.prog 266 [encL 1 yr a0] (.bool (zve a0)):=by
 generalize hR:zve a0=r
 unfold zve at hR
 refine di Tryz.func266 Tryz.ntmps266 Tryz.results266 ?_
 intro c hL hc hk
 obtain⟨hL0,_⟩:=hL
 have hw0:a0.length<9223372036854775808:=Nat.lt_succ_of_le (yf hL0).1
 clear hL0
 simp only[pars,Nat.zero_add]
 iterate 3 refine rS ?_
 refine AWP.block ?_
 generalize hz1:ye (yer a0) (a0.length-0) 0 0=z1 at hR
 refine AWP.range (yer a0) (fun i1 s1=>⟨[(0,encL 1 yr a0),(3,.int .i64 s1),(6,encL 1 yr a0),(7,.int .i64 (a0.length:Int)),(8,.int .i64 (i1:Int))],[]⟩) (fun i1 s1=>True) (a0.length) 0 0 [] hz1 ot wt sm ?_
 clear hz1
 intro i1 s1 hi1 hW1 hz1
 refine rS ?_
 refine AWP.seq ?_
 refine AWP.cond rfl (fun hb => ?_) (fun hb => ?_)
 ·have hlt1:i1<a0.length:=ot
  rw[yj hlt1]at hz1;simp only[yer]at hz1
  iterate 2 refine rS ?_
  refine AWP.cond rfl (fun hb => ?_) (fun hb => ?_)
  ·simp only[hb,cond_true]at hz1
   refine rS ?_
   refine AWP.ret ?_
   subst hz1
   dsimp only at hR
   subst hR
   exact es
  ·simp only[hb,cond_false]at hz1
   iterate 2 refine rS ?_
   exact⟨_,[],hlt1,wt,hz1,sm⟩
 ·obtain rfl:i1=a0.length:=ot
  rw[yi (Nat.le_refl _)]at hz1;subst hz1;dsimp only at hR
  refine AWP.exit ?_;refine yb ?_
  refine rS ?_
  refine AWP.ret ?_
  subst hR
  exact es
end N266
def D_zve : DF
 | [x0]=>some (.bool (zve (rdL ywb x0)),false,[wL 1 yr ywb x0])
 | _=>none
theorem yt4:OkD Tryz.prog 266 D_zve:=by unfold D_zve;exact dk N266.den
end Go.Ab

namespace Go.Ab
open Go Go.Proofs
def yzi (a0:(List UInt8)) (i1:Nat) (s1:Int):Except (Bool) (Int):=
 (bif decide ((zgg [87,82,71,89] ((a0.getD i1 0).toNat:Int))≤s1)then .error false else .ok (zgg [87,82,71,89] ((a0.getD i1 0).toNat:Int)))
def zqc (a0:(List UInt8)):Bool:=
 (match ye (yzi a0) (a0.length-0) 0 (-1)with|.error e=>e|.ok s1=>(ze (a0.length:Int) 1 3))
namespace N189
theorem DD:DOk Tryz.prog (Go.Ab.DD [(181,dP D_ze),(265,dP D_zgg)]):=ya y9b.e <| ya yr6.e <| yc _
theorem dn:type_of% (And.intro @D_ze.eq_1 <| @D_zgg.eq_1):=by and_intros<;>intros<;>rfl
theorem ol:type_of% (@ze.eq_1):=@ze.eq_1
theorem den (a0:(List UInt8))  : Den Tryz.prog 189 [.str a0] (.bool (zqc a0)):=by
 generalize hR:zqc a0=r
 unfold zqc at hR
 refine di Tryz.func189 Tryz.ntmps189 Tryz.results189 ?_
 intro c hL hc hk
 obtain⟨hL0,_⟩:=hL
 have hw0:a0.length<9223372036854775808:=Nat.lt_succ_of_le hL0
 clear hL0
 simp only[pars,Nat.zero_add]
 iterate 3 refine rS ?_
 refine AWP.block ?_
 generalize hz1:ye (yzi a0) (a0.length-0) 0 (-1)=z1 at hR
 refine AWP.range (yzi a0) (fun i1 s1=>⟨[(0,.str a0),(3,.int .i64 s1),(4,.int .i64 (i1:Int))],[]⟩) (fun i1 s1=>True) (a0.length) 0 (-1) [] hz1 ot wt sm ?_
 clear hz1
 intro i1 s1 hi1 hW1 hz1
 refine rS ?_
 refine AWP.cond rfl (fun hb => ?_) (fun hb => ?_)
 ·have hlt1:i1<a0.length:=ot
  rw[yj hlt1]at hz1;simp only[yzi]at hz1
  iterate 2 refine rS ?_
  refine AWP.cond rfl (fun hb => ?_) (fun hb => ?_)
  ·simp only[hb,cond_true]at hz1
   refine rS ?_
   refine AWP.ret ?_
   subst hz1
   dsimp only at hR
   subst hR
   exact es
  ·simp only[hb,cond_false]at hz1
   iterate 2 refine rS ?_
   exact⟨_,[],hlt1,wt,hz1,sm⟩
 ·obtain rfl:i1=a0.length:=ot
  rw[yi (Nat.le_refl _)]at hz1;subst hz1;dsimp only at hR
  refine AWP.exit ?_;refine yb ?_
  refine rS ?_
  refine AWP.ret ?_
  subst hR
  exact es
end N189
def D_zqc : DF
 | [x0]=>some (.bool (zqc (rdS x0)),false,[wS x0])
 | _=>none
theorem y53:OkD Tryz.prog 189 D_zqc:=by unfold D_zqc;exact dk N189.den
end Go.Ab

namespace Go.Ab
open Go Go.Proofs
def zlc (a0:(List UInt8)):(List UInt8):=
 (bif ((((a0.length:Int) != 1) || Op.bytesLess a0 [65]) || !(Op.bytesLess a0 [90] || a0 == [90]))then[]else([[46,45],[45,46,46,46],[45,46,45,46],[45,46,46],[46],[46,46,45,46],[45,45,46],[46,46,46,46],[46,46],[46,45,45,45],[45,46,45],[46,45,46,46],[45,45],[45,46],[45,45,45],[46,45,45,46],[45,45,46,45],[46,45,46],[46,46,46],[45],[46,46,45],[46,46,46,45],[46,45,45],[45,46,46,45],[45,46,45,45],[45,45,46,46]]:List (List UInt8)).getD ((IntKind.wrap .u8 (((a0.getD 0 0).toNat:Int)-65)).toNat) [])
namespace N267
theorem DD:DOk Tryz.prog (Go.Ab.DD []):=yc _
theorem o0 {p:Prop} (h:p:=by(first|(simp only[Bool.or_eq_false_iff,Bool.not_eq_false',Bool.or_eq_true,bne_eq_false_iff_eq]at hb;have h9:=y47 a0 hb;have h8:=hb.1.1;and_intros<;>omega));first|done|fail):p:=h
theorem den (a0:(List UInt8))  : Den Tryz.prog 267 [.str a0] (.str (zlc a0)):=by
 generalize hR:zlc a0=r
 unfold zlc at hR
 refine di Tryz.func267 Tryz.ntmps267 Tryz.results267 ?_
 intro c hL hc hk
 obtain⟨hL0,_⟩:=hL
 have hw0:a0.length<9223372036854775808:=Nat.lt_succ_of_le hL0
 clear hL0
 simp only[pars,Nat.zero_add]
 iterate 2 refine rS ?_
 refine AWP.cond rfl (fun hb => ?_) (fun hb => ?_)
 ·replace hR:=ct hR
  refine rS ?_
  refine AWP.ret ?_
  subst hR
  exact es
 ·replace hR:=cf hR
  refine rS ?_
  refine AWP.ret ?_
  subst hR
  exact es
end N267
def D_zlc : DF
 | [x0]=>some (.str (zlc (rdS x0)),false,[wS x0])
 | _=>none
theorem ypx:OkD Tryz.prog 267 D_zlc:=by unfold D_zlc;exact dk N267.den
end Go.Ab

namespace Go.Ab
open Go Go.Proofs
def zqb (a0:Character):Bool:=
 (bif (a0.Kind == 1)then(((a0.Group.length:Int) == 0) && (a0.Letter == []))else(bif (a0.Kind == 3)then(((a0.Group.length:Int) == 0) && (a0.Letter == []))else(bif (a0.Kind == 2)then((a0.Letter == []) && (zve a0.Group))else(bif (a0.Kind == 4)then((a0.Letter == []) && (zve a0.Group))else(bif (a0.Kind == 5)then((a0.Letter == []) && (zve a0.Group))else(bif (a0.Kind == 6)then(bif (a0.Letter == [])then(((a0.Group.length:Int) == 0) || (((a0.Group.length:Int) == 1) && (ze (a0.Group.getD 0 default) 2 9)))else((a0.Letter == [76]) && (zuc a0.Group ([6]:List Int))))else(bif (a0.Kind == 7)then(bif (a0.Letter == [])then(((a0.Group.length:Int) == 0) || (((a0.Group.length:Int) == 1) && (ze (a0.Group.getD 0 default) 2 9)))else((a0.Letter == [76]) && (zuc a0.Group ([6]:List Int))))else(bif (a0.Kind == 8)then(((zlc a0.Letter) != []) && ((a0.Group.length:Int) == 0))else false))))))))
namespace N190
theorem DD:DOk Tryz.prog (Go.Ab.DD [(181,dP D_ze),(266,dP D_zve),(267,dP D_zlc),(93,dP D_zuc)]):=ya y9b.e <| ya yt4.e <| ya ypx.e <| ya yap.e <| yc _
theorem dn:type_of% (And.intro @D_ze.eq_1 <| And.intro @D_zve.eq_1 <| And.intro @D_zlc.eq_1 <| @D_zuc.eq_1):=by and_intros<;>intros<;>rfl
theorem ol:type_of% (@ze.eq_1):=@ze.eq_1
theorem den (a0:Character)  : Den Tryz.prog 190 [.agg (yg a0)] (.bool (zqb a0)):=by
 generalize hR:zqb a0=r
 unfold zqb at hR
 refine di Tryz.func190 Tryz.ntmps190 Tryz.results190 ?_
 intro c hL hc hk
 obtain⟨hL0,_⟩:=hL
 have hw0:bwCharacter a0:=yn a0 hL0
 clear hL0
 simp only[pars,Nat.zero_add]
 iterate 3 refine rS ?_
 refine AWP.cond rfl (fun hb => ?_) (fun hb => ?_)
 ·replace hR:=ct hR
  refine AWP.skip ?_
  refine AWP.cond rfl (fun hb => ?_) (fun hb => ?_)
  ·refine rS ?_
   refine AWP.ret ?_
   subst hR
   exact es
  ·exfalso;simp_all
 ·replace hR:=cf hR
  refine rS ?_
  refine AWP.cond rfl (fun hb => ?_) (fun hb => ?_)
  ·replace hR:=ct hR
   refine rS ?_
   refine AWP.ret ?_
   subst hR
   exact es
  ·replace hR:=cf hR
   refine rS ?_
   refine AWP.cond rfl (fun hb => ?_) (fun hb => ?_)
   ·replace hR:=ct hR
    refine AWP.skip ?_
    refine AWP.cond rfl (fun hb => ?_) (fun hb => ?_)
    ·refine rS ?_
     refine AWP.ret ?_
     subst hR
     exact es
    ·exfalso;simp_all
   ·replace hR:=cf hR
    refine rS ?_
    refine AWP.cond rfl (fun hb => ?_) (fun hb => ?_)
    ·replace hR:=ct hR
     refine AWP.skip ?_
     refine AWP.cond rfl (fun hb => ?_) (fun hb => ?_)
     ·refine rS ?_
      refine AWP.ret ?_
      subst hR
      exact es
     ·exfalso;simp_all
    ·replace hR:=cf hR
     refine rS ?_
     refine AWP.cond rfl (fun hb => ?_) (fun hb => ?_)
     ·replace hR:=ct hR
      refine rS ?_
      refine AWP.ret ?_
      subst hR
      exact es
     ·replace hR:=cf hR
      refine rS ?_
      refine AWP.cond rfl (fun hb => ?_) (fun hb => ?_)
      ·replace hR:=ct hR
       refine AWP.skip ?_
       refine AWP.cond rfl (fun hb => ?_) (fun hb => ?_)
       ·refine rS ?_
        refine AWP.cond rfl (fun hb => ?_) (fun hb => ?_)
        ·replace hR:=ct hR
         refine rS ?_
         refine AWP.ret ?_
         subst hR
         exact es
        ·replace hR:=cf hR
         refine rS ?_
         refine AWP.ret ?_
         subst hR
         exact es
       ·exfalso;simp_all
      ·replace hR:=cf hR
       refine rS ?_
       refine AWP.cond rfl (fun hb => ?_) (fun hb => ?_)
       ·replace hR:=ct hR
        refine rS ?_
        refine AWP.cond rfl (fun hb => ?_) (fun hb => ?_)
        ·replace hR:=ct hR
         refine rS ?_
         refine AWP.ret ?_
         subst hR
         exact es
        ·replace hR:=cf hR
         refine rS ?_
         refine AWP.ret ?_
         subst hR
         exact es
       ·replace hR:=cf hR
        refine rS ?_
        refine AWP.cond rfl (fun hb => ?_) (fun hb => ?_)
        ·replace hR:=ct hR
         refine rS ?_
         refine AWP.ret ?_
         subst hR
         exact es
        ·replace hR:=cf hR
         refine rS ?_
         refine AWP.ret ?_
         subst hR
         exact es
end N190
def D_zqb : DF
 | [x0]=>some (.bool (zqb (rdG yd x0)),false,[wG yg yd x0])
 | _=>none
theorem ya7:OkD Tryz.prog 190 D_zqb:=by unfold D_zqb;exact dk N190.den
end Go.Ab

namespace Go.Ab
open Go Go.Proofs
theorem y0k (a:List UInt8):zlc a=if a.length=1∧65≤(a.getD 0 0).toNat∧(a.getD 0 0).toNat≤90 then ysd.getD ((a.getD 0 0).toNat-65) []else[]:=by
 unfold zlc
 by_cases h1:a.length=1
 ·have c1:((a.length:Int) != 1)=false:=by rw[h1];rfl
  rw[c1,yyi a 65 h1,yyi a 90 h1,yh2 a 90 h1]
  have e1:(65:UInt8).toNat=65:=rfl
  have e2:(90:UInt8).toNat=90:=rfl
  rw[e1,e2]
  by_cases h2:65≤(a.getD 0 0).toNat∧(a.getD 0 0).toNat≤90
  ·rw[if_pos ⟨h1,h2⟩,decide_eq_false (by omega)]
   have c2:(decide ((a.getD 0 0).toNat<90) || decide ((a.getD 0 0).toNat=90))=true:=by
    rw[Bool.or_eq_true,decide_eq_true_eq,decide_eq_true_eq];omega
   rw[c2]
   simp only[Bool.or_self,Bool.not_true,cond_false]
   rw[ytm _ (by omega) (by omega),show((((a.getD 0 0).toNat:Int)-65).toNat)=(a.getD 0 0).toNat-65 by omega]
   rfl
  ·rw[if_neg (fun h=>h2 h.2)]
   by_cases h3:(a.getD 0 0).toNat<65
   ·rw[decide_eq_true h3];rfl
   ·have c2:(decide ((a.getD 0 0).toNat<90) || decide ((a.getD 0 0).toNat=90))=false:=by
     rw[decide_eq_false (by omega),decide_eq_false (by omega)];rfl
    rw[c2,decide_eq_false h3];rfl
 ·have c1:((a.length:Int) != 1)=true:=by rw[bne_iff_ne];omega
  rw[c1,if_neg (fun h=>h1 h.1)]
  rfl
theorem y90 (a:List UInt8):(zlc a).length≤4:=by
 rw[y0k]
 split
 ·exact ygm _
 ·simp
theorem ynu (a:List UInt8):∀ x∈zlc a,x.toNat<128:=by
 intro x hx
 rw[y0k]at hx
 split at hx
 ·rw[List.getD_eq_getElem?_getD]at hx
  cases h:ysd[(a.getD 0 0).toNat-65]? with
  | none=>rw[h]at hx;simp at hx
  | some y=>
   rw[h]at hx
   rcases(y6i y (List.mem_of_getElem? h)).2.2 x hx with e|e<;>subst e<;>decide
 ·simp at hx
end Go.Ab

namespace Go.Ab
open Go Go.Proofs
def zhi (a0:Int):Bool:=
 ((a0 == 6) || (a0 == 7))
namespace N268
theorem DD:DOk Tryz.prog (Go.Ab.DD []):=yc _
theorem den (a0:Int)  : Den Tryz.prog 268 [.int .i64 a0] (.bool (zhi a0)):=by
 generalize hR:zhi a0=r
 unfold zhi at hR
 refine di Tryz.func268 Tryz.ntmps268 Tryz.results268 ?_
 intro c hL hc hk
 clear hL
 simp only[pars,Nat.zero_add]
 iterate 2 refine rS ?_
 refine AWP.ret ?_
 subst hR
 exact es
end N268
def D_zhi : DF
 | [x0]=>some (.bool (zhi (rdI x0)),false,[wI .i64 x0])
 | _=>none
theorem yb5:OkD Tryz.prog 268 D_zhi:=by unfold D_zhi;exact dk N268.den
end Go.Ab

namespace Go.Ab
open Go Go.Proofs
def zhe (a0:Character):Bool:=
 ((a0.Kind == 1) || ((zhi a0.Kind) && ((a0.Group.length:Int) == 0)))
namespace N191
theorem DD:DOk Tryz.prog (Go.Ab.DD [(268,dP D_zhi)]):=ya yb5.e <| yc _
theorem dn:type_of% (@D_zhi.eq_1):=by and_intros<;>intros<;>rfl
theorem den (a0:Character)  : Den Tryz.prog 191 [.agg (yg a0)] (.bool (zhe a0)):=by
 generalize hR:zhe a0=r
 unfold zhe at hR
 refine di Tryz.func191 Tryz.ntmps191 Tryz.results191 ?_
 intro c hL hc hk
 obtain⟨hL0,_⟩:=hL
 have hw0:bwCharacter a0:=yn a0 hL0
 clear hL0
 simp only[pars,Nat.zero_add]
 iterate 2 refine rS ?_
 refine AWP.ret ?_
 subst hR
 exact es
end N191
def D_zhe : DF
 | [x0]=>some (.bool (zhe (rdG yd x0)),false,[wG yg yd x0])
 | _=>none
theorem y9w:OkD Tryz.prog 191 D_zhe:=by unfold D_zhe;exact dk N191.den
end Go.Ab

namespace Go.Ab
open Go Go.Proofs
def zcb (a0:Int):(Int×Int×Int):=
 (bif (a0 == 2)then(10,10,15)else(bif (a0 == 4)then(5,15,20)else(bif (a0 == 5)then(20,20,25)else(bif (a0 == 6)then(5,5,20)else(bif (a0 == 7)then(2,3,10)else(bif (a0 == 8)then(5,5,30)else(0,0,0)))))))
namespace N269
theorem DD:DOk Tryz.prog (Go.Ab.DD []):=yc _
theorem den (a0:Int)  : Den Tryz.prog 269 [.int .i64 a0] (.tup [.int .i64 ((zcb a0).1),.int .i64 ((zcb a0).2.1),.int .i64 ((zcb a0).2.2)]):=by
 generalize hR:zcb a0=r
 unfold zcb at hR
 refine di Tryz.func269 Tryz.ntmps269 Tryz.results269 ?_
 intro c hL hc hk
 clear hL
 simp only[pars,Nat.zero_add]
 iterate 3 refine rS ?_
 refine AWP.cond rfl (fun hb => ?_) (fun hb => ?_)
 ·replace hR:=ct hR
  refine rS ?_
  refine AWP.ret ?_
  subst hR
  exact es
 ·replace hR:=cf hR
  refine rS ?_
  refine AWP.cond rfl (fun hb => ?_) (fun hb => ?_)
  ·replace hR:=ct hR
   refine rS ?_
   refine AWP.ret ?_
   subst hR
   exact es
  ·replace hR:=cf hR
   refine rS ?_
   refine AWP.cond rfl (fun hb => ?_) (fun hb => ?_)
   ·replace hR:=ct hR
    refine rS ?_
    refine AWP.ret ?_
    subst hR
    exact es
   ·replace hR:=cf hR
    refine rS ?_
    refine AWP.cond rfl (fun hb => ?_) (fun hb => ?_)
    ·replace hR:=ct hR
     refine rS ?_
     refine AWP.ret ?_
     subst hR
     exact es
    ·replace hR:=cf hR
     refine rS ?_
     refine AWP.cond rfl (fun hb => ?_) (fun hb => ?_)
     ·replace hR:=ct hR
      refine rS ?_
      refine AWP.ret ?_
      subst hR
      exact es
     ·replace hR:=cf hR
      refine rS ?_
      refine AWP.cond rfl (fun hb => ?_) (fun hb => ?_)
      ·replace hR:=ct hR
       refine rS ?_
       refine AWP.ret ?_
       subst hR
       exact es
      ·replace hR:=cf hR
       refine rS ?_
       refine AWP.ret ?_
       subst hR
       exact es
end N269
def D_zcb : DF
 | [x0]=>some (.tup [.int .i64 ((zcb (rdI x0)).1),.int .i64 ((zcb (rdI x0)).2.1),.int .i64 ((zcb (rdI x0)).2.2)],false,[wI .i64 x0])
 | _=>none
theorem ydz:OkD Tryz.prog 269 D_zcb:=by unfold D_zcb;exact dk N269.den
end Go.Ab

namespace Go.Ab
open Go Go.Proofs
def ydw (a0:(List Int)) (i1:Nat) (s1:Int):Except (Int) (Int):=
 .ok (IntKind.wrap .i64 (s1+(a0.getD i1 default)))
def zwf (a0:(List Int)):Int:=
 (match ye (ydw a0) (a0.length-0) 0 0 with|.error e=>e|.ok s1=>s1)
namespace N270
theorem DD:DOk Tryz.prog (Go.Ab.DD []):=yc _
theorem den (a0:(List Int))  : Den Tryz.prog 270 [encL 1 yr a0] (.int .i64 (zwf a0)):=by
 generalize hR:zwf a0=r
 unfold zwf at hR
 refine di Tryz.func270 Tryz.ntmps270 Tryz.results270 ?_
 intro c hL hc hk
 obtain⟨hL0,_⟩:=hL
 have hw0:a0.length<9223372036854775808:=Nat.lt_succ_of_le (yf hL0).1
 clear hL0
 simp only[pars,Nat.zero_add]
 iterate 3 refine rS ?_
 refine AWP.block ?_
 generalize hz1:ye (ydw a0) (a0.length-0) 0 0=z1 at hR
 refine AWP.range (ydw a0) (fun i1 s1=>⟨[(3,.int .i64 s1),(6,encL 1 yr a0),(7,.int .i64 (a0.length:Int)),(8,.int .i64 (i1:Int))],[]⟩) (fun i1 s1=>True) (a0.length) 0 0 [] hz1 ot wt sm ?_
 clear hz1
 intro i1 s1 hi1 hW1 hz1
 refine rS ?_
 refine AWP.seq ?_
 refine AWP.cond rfl (fun hb => ?_) (fun hb => ?_)
 ·have hlt1:i1<a0.length:=ot
  rw[yj hlt1]at hz1;simp only[ydw]at hz1
  iterate 3 refine rS ?_
  exact⟨_,[],hlt1,wt,hz1,sm⟩
 ·obtain rfl:i1=a0.length:=ot
  rw[yi (Nat.le_refl _)]at hz1;subst hz1;dsimp only at hR
  refine AWP.exit ?_;refine yb ?_
  refine rS ?_
  refine AWP.ret ?_
  subst hR
  exact es
end N270
def D_zwf : DF
 | [x0]=>some (.int .i64 (zwf (rdL ywb x0)),false,[wL 1 yr ywb x0])
 | _=>none
theorem y34:OkD Tryz.prog 270 D_zwf:=by unfold D_zwf;exact dk N270.den
end Go.Ab

namespace Go.Ab
open Go Go.Proofs
def yys (a0:(List Sector)) (i1:Nat) (s1:List UInt8) (i2:Nat) (s2:List UInt8):Except ((List UInt8)) (List UInt8):=
 (bif ((((a0.getD i2 default).Color) == (([87,82,71,89].take ((IntKind.wrap .i64 ((i1:Int)+1)).toNat)).drop i1)) && (!(zpc s2 (([87,82,71,89].take ((IntKind.wrap .i64 ((i1:Int)+1)).toNat)).drop i1))))then .ok (s2++(([87,82,71,89].take ((IntKind.wrap .i64 ((i1:Int)+1)).toNat)).drop i1))else .ok s2)
def y5n (a0:(List Sector)) (i1:Nat) (s1:List UInt8):Except ((List UInt8)) (List UInt8):=
 (match ye (yys a0 i1 s1) (a0.length-0) 0 s1 with|.error e=>.error e|.ok s2=>.ok s2)
def zsd (a0:(List Sector)):(List UInt8):=
 (match ye (y5n a0) ([87,82,71,89].length-0) 0 []with|.error e=>e|.ok s1=>s1)
namespace N216
theorem DD:DOk Tryz.prog (Go.Ab.DD [(286,dP D_zpc)]):=ya yuy.e <| yc _
theorem dn:type_of% (@D_zpc.eq_1):=by and_intros<;>intros<;>rfl
theorem o0 {p:Prop} (h:p:=by(first|(have h4:=hq4 i1;have h1:=hW1;have h2:=hW2;and_intros<;>first|omega|exact y5w (by omega)));first|done|fail):p:=h
theorem den (a0:(List Sector)) (hb0:a0.length<1099511627776) (hb1:∀ v∈a0,bdSector v):Den Tryz.prog 216 [encL 3 yk a0] (.str (zsd a0)):=by
 generalize hR:zsd a0=r
 unfold zsd at hR
 refine di Tryz.func216 Tryz.ntmps216 Tryz.results216 ?_
 intro c hL hc hk
 obtain⟨hL0,_⟩:=hL
 have hw0:a0.length<9223372036854775808:=Nat.lt_succ_of_le (yf hL0).1
 have hw1:∀ v∈a0,bwSector v:=fun v hv=>yt v ((yf hL0).2 v hv)
 clear hL0
 simp only[pars,Nat.zero_add]
 have hq4:=y35
 iterate 3 refine rS ?_
 refine AWP.block ?_
 generalize hz1:ye (y5n a0) ([87,82,71,89].length-0) 0 []=z1 at hR
 refine AWP.range (y5n a0) (fun i1 s1=>⟨[(0,encL 3 yk a0),(3,.str s1),(8,.ptr 0 0)],[.it [87,82,71,89] i1 (decide (i1<[87,82,71,89].length))]⟩) (fun i1 s1=>s1.length≤1099511627776 * i1) ([87,82,71,89].length) 0 [] [0] hz1 ot (by(simp)) sm ?_
 clear hz1
 intro i1 s1 hi1 hW1 hz1
 refine AWP.seq ?_
 by_cases hlt1:i1<[87,82,71,89].length
 ·rw[yj hlt1]at hz1;simp only[y5n]at hz1
  rw[decide_eq_true hlt1]
  refine rS ?_
  refine AWP.seq ?_
  refine AWP.cond rfl (fun hb => ?_) (fun hb=>by cases hb)
  iterate 2 refine rS ?_
  refine AWP.block ?_
  generalize hz2:ye (yys a0 i1 s1) (a0.length-0) 0 s1=z2 at hz1
  refine AWP.range (yys a0 i1 s1) (fun i2 s2=>⟨[(0,encL 3 yk a0),(3,.str s2),(4,.int .i64 (i1:Int)),(8,.ptr 0 0),(12,encL 3 yk a0),(13,.int .i64 (a0.length:Int)),(14,.int .i64 (i2:Int))],[.it [87,82,71,89] (i1+1) (decide (i1+1<[87,82,71,89].length))]⟩) (fun i2 s2=>s2.length≤1099511627776 * i1+i2) (a0.length) 0 s1 [0] hz2 ot (by(exact hW1)) sm ?_
  clear hz2
  intro i2 s2 hi2 hW2 hz2
  refine rS ?_
  refine AWP.seq ?_
  refine AWP.cond rfl (fun hb => ?_) (fun hb => ?_)
  ·have hlt2:i2<a0.length:=ot
   rw[yj hlt2]at hz2;simp only[yys]at hz2
   iterate 3 refine rS ?_
   refine AWP.cond rfl (fun hb => ?_) (fun hb => ?_)
   ·simp only[hb,cond_true]at hz2
    iterate 2 refine rS ?_
    exact⟨_,[0],hlt2,by(have h4:=hq4 i1;have h2:=hW2;simp only[ln]at *;omega),hz2,sm⟩
   ·simp only[hb,cond_false]at hz2
    refine rS ?_
    exact⟨_,[0],hlt2,by(have h4:=hq4 i1;have h2:=hW2;simp only[ln]at *;omega),hz2,sm⟩
  ·obtain rfl:i2=a0.length:=ot
   rw[yi (Nat.le_refl _)]at hz2;subst hz2;dsimp only at hz1
   refine AWP.exit ?_;refine yb ?_
   exact⟨_,[0],hlt1,by(have h1:=hW1;omega),hz1,sm⟩
 ·obtain rfl:i1=[87,82,71,89].length:=by omega
  rw[yi (Nat.le_refl _)]at hz1;subst hz1;dsimp only at hR
  simp only[Nat.lt_irrefl,decide_false]
  refine rS ?_
  refine AWP.seq ?_
  refine AWP.cond rfl (fun hb=>by cases hb) (fun hb => ?_)
  refine AWP.exit ?_;refine yb ?_
  refine rS ?_
  refine AWP.ret ?_
  subst hR
  exact es
end N216
def D_zsd : DF
 | [x0]=>some (.str (zsd (rdL yq x0)),false,[wL 3 yk yq x0,(rdL yq x0).length<1099511627776,∀ v∈(rdL yq x0),bdSector v])
 | _=>none
theorem yg7:OkD Tryz.prog 216 D_zsd:=by unfold D_zsd;exact dk N216.den
end Go.Ab

namespace Go.Ab
open Go Go.Proofs
def yvo (a0:(List Int)) (a1:(List Int)) (i1:Nat) (s1:Unit):Except (Bool) (Unit):=
 (bif ((a0.getD i1 default) != (a1.getD i1 default))then .error false else .ok ())
def zgf (a0:(List Int)) (a1:(List Int)):Bool:=
 (bif ((a0.length:Int) != (a1.length:Int))then false else(match ye (yvo a0 a1) (a0.length-0) 0 ()with|.error e=>e|.ok s1=>true))
namespace N247
theorem DD:DOk Tryz.prog (Go.Ab.DD []):=yc _
theorem den (a0:(List Int)) (a1:(List Int))  : Den Tryz.prog 247 [encL 1 yr a0,encL 1 yr a1] (.bool (zgf a0 a1)):=by
 generalize hR:zgf a0 a1=r
 unfold zgf at hR
 refine di Tryz.func247 Tryz.ntmps247 Tryz.results247 ?_
 intro c hL hc hk
 obtain⟨hL0,hL1,_⟩:=hL
 have hw0:a0.length<9223372036854775808:=Nat.lt_succ_of_le (yf hL0).1
 have hw1:a1.length<9223372036854775808:=Nat.lt_succ_of_le (yf hL1).1
 clear hL0 hL1
 simp only[pars,Nat.zero_add]
 iterate 2 refine rS ?_
 refine AWP.cond rfl (fun hb => ?_) (fun hb => ?_)
 ·replace hR:=ct hR
  refine rS ?_
  refine AWP.ret ?_
  subst hR
  exact es
 ·replace hR:=cf hR
  refine rS ?_
  refine AWP.block ?_
  generalize hz1:ye (yvo a0 a1) (a0.length-0) 0 ()=z1 at hR
  refine AWP.range (yvo a0 a1) (fun i1 s1=>⟨[(0,encL 1 yr a0),(1,encL 1 yr a1),(12,.int .i64 (a0.length:Int)),(13,.int .i64 (i1:Int))],[]⟩) (fun i1 s1=>True) (a0.length) 0 () [] hz1 ot wt sm ?_
  clear hz1
  intro i1 s1 hi1 hW1 hz1
  refine rS ?_
  refine AWP.seq ?_
  refine AWP.cond rfl (fun hb => ?_) (fun hb => ?_)
  ·have hlt1:i1<a0.length:=ot
   rw[yj hlt1]at hz1;simp only[yvo]at hz1
   refine rS ?_
   refine rD 8 ?_
   refine AWP.cond rfl (fun hb => ?_) (fun hb => ?_)
   ·simp only[hb,cond_true]at hz1
    refine rS ?_
    refine AWP.ret ?_
    subst hz1
    dsimp only at hR
    subst hR
    exact es
   ·simp only[hb,cond_false]at hz1
    refine rS ?_
    exact⟨_,[],hlt1,wt,hz1,sm⟩
  ·obtain rfl:i1=a0.length:=ot
   rw[yi (Nat.le_refl _)]at hz1;subst hz1;dsimp only at hR
   refine AWP.exit ?_;refine yb ?_
   refine rS ?_
   refine AWP.ret ?_
   subst hR
   exact es
end N247
def D_zgf : DF
 | [x0,x1]=>some (.bool (zgf (rdL ywb x0) (rdL ywb x1)),false,[wL 1 yr ywb x0,wL 1 yr ywb x1])
 | _=>none
theorem yl5:OkD Tryz.prog 247 D_zgf:=by unfold D_zgf;exact dk N247.den
end Go.Ab

namespace Go.Ab
open Go Go.Proofs
theorem yvn (a b:List Int):zgf a b=decide (a=b):=by
 unfold zgf
 by_cases hl:a.length=b.length
 ·have h1:((a.length:Int) != (b.length:Int))=false:=by simp[hl]
  rw[h1,cond_false,ymd (b:=yvo a b) (fun j => !decide (a.getD j default=b.getD j default)) false (fun j u _ _=>by simp only[yvo,ned])]
  simp only[Nat.sub_zero,Nat.zero_add]
  rw[ybs a b hl]
  by_cases h:a=b<;>simp[h]
 ·have h1:((a.length:Int) != (b.length:Int))=true:=by simp;omega
  have h2:¬ a=b:=fun e=>hl (by rw[e])
  rw[h1,cond_true,decide_eq_false h2]
end Go.Ab

namespace Go.Ab
open Go Go.Proofs
def zuh (a0:Int):Bool:=
 (ze a0 1 100000000)
namespace N214
theorem DD:DOk Tryz.prog (Go.Ab.DD [(181,dP D_ze)]):=ya y9b.e <| yc _
theorem dn:type_of% (@D_ze.eq_1):=by and_intros<;>intros<;>rfl
theorem ol:type_of% (@ze.eq_1):=@ze.eq_1
theorem den (a0:Int)  : Den Tryz.prog 214 [.int .i64 a0] (.bool (zuh a0)):=by
 generalize hR:zuh a0=r
 unfold zuh at hR
 refine di Tryz.func214 Tryz.ntmps214 Tryz.results214 ?_
 intro c hL hc hk
 clear hL
 simp only[pars,Nat.zero_add]
 iterate 2 refine rS ?_
 refine AWP.ret ?_
 subst hR
 exact es
end N214
def D_zuh : DF
 | [x0]=>some (.bool (zuh (rdI x0)),false,[wI .i64 x0])
 | _=>none
theorem yh8:OkD Tryz.prog 214 D_zuh:=by unfold D_zuh;exact dk N214.den
end Go.Ab

namespace Go.Ab
open Go Go.Proofs
def zxf (a0:Character) (a1:Character):Bool:=
 (((((a0.Kind == a1.Kind) && (zgf a0.Group a1.Group)) && (a0.Letter == a1.Letter)) && (a0.Colors == a1.Colors)) && (a0.Period == a1.Period))
namespace N150
theorem DD:DOk Tryz.prog (Go.Ab.DD [(247,dP D_zgf)]):=ya yl5.e <| yc _
theorem dn:type_of% (@D_zgf.eq_1):=by and_intros<;>intros<;>rfl
theorem den (a0:Character) (a1:Character)  : Den Tryz.prog 150 [.agg (yg a0),.agg (yg a1)] (.bool (zxf a0 a1)):=by
 generalize hR:zxf a0 a1=r
 unfold zxf at hR
 refine di Tryz.func150 Tryz.ntmps150 Tryz.results150 ?_
 intro c hL hc hk
 obtain⟨hL0,hL1,_⟩:=hL
 have hw0:bwCharacter a0:=yn a0 hL0
 have hw1:bwCharacter a1:=yn a1 hL1
 clear hL0 hL1
 simp only[pars,Nat.zero_add]
 iterate 2 refine rS ?_
 refine AWP.ret ?_
 subst hR
 exact es
end N150
def D_zxf : DF
 | [x0,x1]=>some (.bool (zxf (rdG yd x0) (rdG yd x1)),false,[wG yg yd x0,wG yg yd x1])
 | _=>none
theorem ypy:OkD Tryz.prog 150 D_zxf:=by unfold D_zxf;exact dk N150.den
end Go.Ab

namespace Go.Ab
open Go Go.Proofs
def zvh (a0:Aid):Bool:=
 (((zxf a0.Light ({ Kind:=0,Group:=[],Letter:=[],Colors:=[],Period:=0:Character })) && ((a0.Sectors.length:Int) == 0)) && (a0.Intensity == 0))
namespace N213
theorem DD:DOk Tryz.prog (Go.Ab.DD [(150,dP D_zxf)]):=ya ypy.e <| yc _
theorem dn:type_of% (@D_zxf.eq_1):=by and_intros<;>intros<;>rfl
theorem den (a0:Aid)  : Den Tryz.prog 213 [.agg (eAid a0)] (.bool (zvh a0)):=by
 generalize hR:zvh a0=r
 unfold zvh at hR
 refine di Tryz.func213 Tryz.ntmps213 Tryz.results213 ?_
 intro c hL hc hk
 obtain⟨hL0,_⟩:=hL
 have hw0:bwAid a0:=yxb a0 hL0
 clear hL0
 simp only[pars,Nat.zero_add]
 iterate 2 refine rS ?_
 refine AWP.ret ?_
 subst hR
 exact es
end N213
def D_zvh : DF
 | [x0]=>some (.bool (zvh (rdG dAid x0)),false,[wG eAid dAid x0])
 | _=>none
theorem ym5:OkD Tryz.prog 213 D_zvh:=by unfold D_zvh;exact dk N213.den
end Go.Ab

namespace Go.Ab
open Go Go.Proofs
def ztd (a0:Int):Bool:=
 (ze a0 1 9999)
namespace N209
theorem DD:DOk Tryz.prog (Go.Ab.DD [(181,dP D_ze)]):=ya y9b.e <| yc _
theorem dn:type_of% (@D_ze.eq_1):=by and_intros<;>intros<;>rfl
theorem ol:type_of% (@ze.eq_1):=@ze.eq_1
theorem den (a0:Int)  : Den Tryz.prog 209 [.int .i64 a0] (.bool (ztd a0)):=by
 generalize hR:ztd a0=r
 unfold ztd at hR
 refine di Tryz.func209 Tryz.ntmps209 Tryz.results209 ?_
 intro c hL hc hk
 clear hL
 simp only[pars,Nat.zero_add]
 iterate 2 refine rS ?_
 refine AWP.ret ?_
 subst hR
 exact es
end N209
def D_ztd : DF
 | [x0]=>some (.bool (ztd (rdI x0)),false,[wI .i64 x0])
 | _=>none
theorem yoq:OkD Tryz.prog 209 D_ztd:=by unfold D_ztd;exact dk N209.den
end Go.Ab

namespace Go.Ab
open Go Go.Proofs
def zke (a0:Point):Bool:=
 ((ze a0.X 0 200000) && (ze a0.Y 0 200000))
namespace N211
theorem DD:DOk Tryz.prog (Go.Ab.DD [(181,dP D_ze)]):=ya y9b.e <| yc _
theorem dn:type_of% (@D_ze.eq_1):=by and_intros<;>intros<;>rfl
theorem ol:type_of% (@ze.eq_1):=@ze.eq_1
theorem den (a0:Point)  : Den Tryz.prog 211 [.agg (ytd a0)] (.bool (zke a0)):=by
 generalize hR:zke a0=r
 unfold zke at hR
 refine di Tryz.func211 Tryz.ntmps211 Tryz.results211 ?_
 intro c hL hc hk
 clear hL
 simp only[pars,Nat.zero_add]
 iterate 2 refine rS ?_
 refine AWP.ret ?_
 subst hR
 exact es
end N211
def D_zke : DF
 | [x0]=>some (.bool (zke (rdG y2f x0)),false,[wG ytd y2f x0])
 | _=>none
theorem yip:OkD Tryz.prog 211 D_zke:=by unfold D_zke;exact dk N211.den
end Go.Ab

namespace Go.Ab
open Go Go.Proofs
def zci (a0:Int):Bool:=
 (ze a0 0 3000)
namespace N212
theorem DD:DOk Tryz.prog (Go.Ab.DD [(181,dP D_ze)]):=ya y9b.e <| yc _
theorem dn:type_of% (@D_ze.eq_1):=by and_intros<;>intros<;>rfl
theorem ol:type_of% (@ze.eq_1):=@ze.eq_1
theorem den (a0:Int)  : Den Tryz.prog 212 [.int .i64 a0] (.bool (zci a0)):=by
 generalize hR:zci a0=r
 unfold zci at hR
 refine di Tryz.func212 Tryz.ntmps212 Tryz.results212 ?_
 intro c hL hc hk
 clear hL
 simp only[pars,Nat.zero_add]
 iterate 2 refine rS ?_
 refine AWP.ret ?_
 subst hR
 exact es
end N212
def D_zci : DF
 | [x0]=>some (.bool (zci (rdI x0)),false,[wI .i64 x0])
 | _=>none
theorem y33:OkD Tryz.prog 212 D_zci:=by unfold D_zci;exact dk N212.den
end Go.Ab

namespace Go.Ab
open Go Go.Proofs
def zdd (a0:Int):(List UInt8):=
 (zkb a0 ([[],[70],[79,99],[73,115,111],[70,108],[76,70,108],[81],[86,81],[77,111]]:List (List UInt8)))
namespace N263
theorem DD:DOk Tryz.prog (Go.Ab.DD [(90,dP D_zkb)]):=ya yvf.e <| yc _
theorem dn:type_of% (@D_zkb.eq_1):=by and_intros<;>intros<;>rfl
theorem lx {p:Prop} (h:p:=by(exact lxx);first|done|fail):p:=h
theorem den (a0:Int)  : Den Tryz.prog 263 [.int .i64 a0] (.str (zdd a0)):=by
 generalize hR:zdd a0=r
 unfold zdd at hR
 refine di Tryz.func263 Tryz.ntmps263 Tryz.results263 ?_
 intro c hL hc hk
 clear hL
 simp only[pars,Nat.zero_add]
 iterate 2 refine rS ?_
 refine AWP.ret ?_
 subst hR
 exact es
end N263
def D_zdd : DF
 | [x0]=>some (.str (zdd (rdI x0)),false,[wI .i64 x0])
 | _=>none
theorem ywy:OkD Tryz.prog 263 D_zdd:=by unfold D_zdd;exact dk N263.den
end Go.Ab
