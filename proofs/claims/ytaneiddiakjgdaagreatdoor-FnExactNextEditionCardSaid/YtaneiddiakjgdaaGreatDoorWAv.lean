/- A part of a proof: walks of functions and lemmas of our own. No conditions. -/
import Derived.Test.YtaneiddiakjgdaaGreatDoorWAl
import Derived.Test.YtaneiddiakjgdaaGreatDoorWAo
set_option linter.unusedSectionVars false
set_option linter.unusedVariables false
set_option linter.unusedSimpArgs false
set_option maxHeartbeats 1000000
namespace Go.Ab
open Go Go.Proofs
def zle (a0:Int):Bool:=
 (decide (97≤a0) && decide (a0≤122))
namespace N187
theorem DD:DOk Tryz.prog (Go.Ab.DD []):=ye _
theorem den (a0:Int)  : Den Tryz.prog 187 [.int .u8 a0] (.bool (zle a0)):=by
 generalize hR:zle a0=r
 unfold zle at hR
 refine di Tryz.func187 Tryz.ntmps187 Tryz.results187 ?_
 intro c hL hc hk
 clear hL
 simp only[pars,Nat.zero_add]
 iterate 2 refine rS ?_
 refine AWP.ret ?_
 subst hR
 exact es
end N187
def D_zle : DF
 | [x0]=>some (.bool (zle (rdI x0)),false,[wI .u8 x0])
 | _=>none
theorem ykz:OkD Tryz.prog 187 D_zle:=by unfold D_zle;exact dk N187.den
end Go.Ab

namespace Go.Ab
open Go Go.Proofs
def zgg (a0:Int):Bool:=
 (decide (48≤a0) && decide (a0≤57))
namespace N188
theorem DD:DOk Tryz.prog (Go.Ab.DD []):=ye _
theorem den (a0:Int)  : Den Tryz.prog 188 [.int .u8 a0] (.bool (zgg a0)):=by
 generalize hR:zgg a0=r
 unfold zgg at hR
 refine di Tryz.func188 Tryz.ntmps188 Tryz.results188 ?_
 intro c hL hc hk
 clear hL
 simp only[pars,Nat.zero_add]
 iterate 2 refine rS ?_
 refine AWP.ret ?_
 subst hR
 exact es
end N188
def D_zgg : DF
 | [x0]=>some (.bool (zgg (rdI x0)),false,[wI .u8 x0])
 | _=>none
theorem yoz:OkD Tryz.prog 188 D_zgg:=by unfold D_zgg;exact dk N188.den
end Go.Ab

namespace Go.Ab
open Go Go.Proofs
def yzr (a0:(List UInt8)) (i1:Nat) (s1:Unit):Except (Bool) (Unit):=
 (bif ((!(zle ((a0.getD i1 0).toNat:Int))) && (!(zgg ((a0.getD i1 0).toNat:Int))))then .error false else .ok ())
def zld (a0:(List UInt8)):Bool:=
 (bif (((a0 == []) || decide (10<(a0.length:Int))) || (!(zle ((a0.getD 0 0).toNat:Int))))then false else(match yh (yzr a0) (a0.length-0) 0 ()with|.error e=>e|.ok s1=>true))
namespace N148
theorem DD:DOk Tryz.prog (Go.Ab.DD [(187,dP D_zle),(188,dP D_zgg)]):=ya ykz.e <| ya yoz.e <| ye _
theorem dn:type_of% (And.intro @D_zle.eq_1 <| @D_zgg.eq_1):=by and_intros<;>intros<;>rfl
theorem den (a0:(List UInt8))  : Den Tryz.prog 148 [.str a0] (.bool (zld a0)):=by
 generalize hR:zld a0=r
 unfold zld at hR
 refine di Tryz.func148 Tryz.ntmps148 Tryz.results148 ?_
 intro c hL hc hk
 obtain⟨hL0,_⟩:=hL
 have hw0:a0.length<9223372036854775808:=Nat.lt_succ_of_le hL0
 clear hL0
 simp only[pars,Nat.zero_add]
 iterate 2 refine rS ?_
 refine AWP.cond rfl (fun hb => ?_) (fun hb => ?_)
 ·replace hR:=ct hR
  refine rS ?_
  refine AWP.ret ?_
  subst hR
  exact es
 ·replace hR:=cf hR
  refine rS ?_
  refine AWP.block ?_
  generalize hz1:yh (yzr a0) (a0.length-0) 0 ()=z1 at hR
  refine AWP.range (yzr a0) (fun i1 s1=>⟨[(0,.str a0),(3,.int .i64 (i1:Int))],[]⟩) (fun i1 s1=>True) (a0.length) 0 () [] hz1 ot wt sm ?_
  clear hz1
  intro i1 s1 hi1 hW1 hz1
  refine rS ?_
  refine AWP.cond rfl (fun hb => ?_) (fun hb => ?_)
  ·have hlt1:i1<a0.length:=ot
   rw[yj hlt1]at hz1;simp only[yzr]at hz1
   refine rS ?_
   refine AWP.cond rfl (fun hb => ?_) (fun hb => ?_)
   ·simp only[hb,cond_true]at hz1
    refine rS ?_
    refine AWP.ret ?_
    subst hz1
    dsimp only at hR
    subst hR
    exact es
   ·simp only[hb,cond_false]at hz1
    refine rS ?_
    exact⟨_,[],hlt1,wt,hz1,sm⟩
  ·obtain rfl:i1=a0.length:=ot
   rw[yi (Nat.le_refl _)]at hz1;subst hz1;dsimp only at hR
   refine AWP.exit ?_;refine yd ?_
   refine rS ?_
   refine AWP.ret ?_
   subst hR
   exact es
end N148
def D_zld : DF
 | [x0]=>some (.bool (zld (rdS x0)),false,[wS x0])
 | _=>none
theorem y4z:OkD Tryz.prog 148 D_zld:=by unfold D_zld;exact dk N148.den
end Go.Ab

namespace Go.Ab
open Go Go.Proofs
def zd (a0:Int) (a1:Int) (a2:Int):Bool:=
 (decide (a1≤a0) && decide (a0≤a2))
namespace N137
theorem DD:DOk Tryz.prog (Go.Ab.DD []):=ye _
theorem den (a0:Int) (a1:Int) (a2:Int)  : Den Tryz.prog 137 [.int .i64 a0,.int .i64 a1,.int .i64 a2] (.bool (zd a0 a1 a2)):=by
 generalize hR:zd a0 a1 a2=r
 unfold zd at hR
 refine di Tryz.func137 Tryz.ntmps137 Tryz.results137 ?_
 intro c hL hc hk
 clear hL
 simp only[pars,Nat.zero_add]
 iterate 2 refine rS ?_
 refine AWP.ret ?_
 subst hR
 exact es
end N137
def D_zd : DF
 | [x0,x1,x2]=>some (.bool (zd (rdI x0) (rdI x1) (rdI x2)),false,[wI .i64 x0,wI .i64 x1,wI .i64 x2])
 | _=>none
theorem y9d:OkD Tryz.prog 137 D_zd:=by unfold D_zd;exact dk N137.den
end Go.Ab

namespace Go.Ab
open Go Go.Proofs
def y0p (a0:(List Int)) (i1:Nat) (s1:Int):Except (Int) (Int):=
 .ok (IntKind.wrap .i64 (s1+(a0.getD i1 default)))
def zde (a0:(List Int)):Int:=
 (bif ((a0.length:Int) == 0)then 1 else(match yh (y0p a0) (a0.length-0) 0 0 with|.error e=>e|.ok s1=>s1))
namespace N247
theorem DD:DOk Tryz.prog (Go.Ab.DD []):=ye _
theorem den (a0:(List Int))  : Den Tryz.prog 247 [encL 1 yp a0] (.int .i64 (zde a0)):=by
 generalize hR:zde a0=r
 unfold zde at hR
 refine di Tryz.func247 Tryz.ntmps247 Tryz.results247 ?_
 intro c hL hc hk
 obtain⟨hL0,_⟩:=hL
 have hw0:a0.length<9223372036854775808:=Nat.lt_succ_of_le (yb hL0).1
 clear hL0
 simp only[pars,Nat.zero_add]
 iterate 2 refine rS ?_
 refine AWP.cond rfl (fun hb => ?_) (fun hb => ?_)
 ·replace hR:=ct hR
  refine rS ?_
  refine AWP.ret ?_
  subst hR
  exact es
 ·replace hR:=cf hR
  iterate 2 refine rS ?_
  refine AWP.block ?_
  generalize hz1:yh (y0p a0) (a0.length-0) 0 0=z1 at hR
  refine AWP.range (y0p a0) (fun i1 s1=>⟨[(0,encL 1 yp a0),(3,.int .i64 s1),(4,.int .i64 (i1:Int))],[]⟩) (fun i1 s1=>True) (a0.length) 0 0 [] hz1 ot wt sm ?_
  clear hz1
  intro i1 s1 hi1 hW1 hz1
  refine rS ?_
  refine AWP.cond rfl (fun hb => ?_) (fun hb => ?_)
  ·have hlt1:i1<a0.length:=ot
   rw[yj hlt1]at hz1;simp only[y0p]at hz1
   iterate 2 refine rS ?_
   exact⟨_,[],hlt1,wt,hz1,sm⟩
  ·obtain rfl:i1=a0.length:=ot
   rw[yi (Nat.le_refl _)]at hz1;subst hz1;dsimp only at hR
   refine AWP.exit ?_;refine yd ?_
   refine rS ?_
   refine AWP.ret ?_
   subst hR
   exact es
end N247
def D_zde : DF
 | [x0]=>some (.int .i64 (zde (rdL ylb x0)),false,[wL 1 yp ylb x0])
 | _=>none
theorem y9y:OkD Tryz.prog 247 D_zde:=by unfold D_zde;exact dk N247.den
end Go.Ab

namespace Go.Ab
open Go Go.Proofs
def yup (a0:(List Int)) (i1:Nat) (s1:Unit):Except (Bool) (Unit):=
 (bif (!(zd (a0.getD i1 default) 1 9))then .error false else .ok ())
def zvc (a0:(List Int)):Bool:=
 (match yh (yup a0) (a0.length-0) 0 ()with|.error e=>e|.ok s1=>((decide ((a0.length:Int)≤4) && (!(((a0.length:Int) == 1) && ((a0.getD 0 default) == 1)))) && decide ((zde a0)≤12)))
namespace N226
theorem DD:DOk Tryz.prog (Go.Ab.DD [(137,dP D_zd),(247,dP D_zde)]):=ya y9d.e <| ya y9y.e <| ye _
theorem dn:type_of% (And.intro @D_zd.eq_1 <| @D_zde.eq_1):=by and_intros<;>intros<;>rfl
theorem ol:type_of% (@zd.eq_1):=@zd.eq_1
theorem den (a0:(List Int))  : Den Tryz.prog 226 [encL 1 yp a0] (.bool (zvc a0)):=by
 generalize hR:zvc a0=r
 unfold zvc at hR
 refine di Tryz.func226 Tryz.ntmps226 Tryz.results226 ?_
 intro c hL hc hk
 obtain⟨hL0,_⟩:=hL
 have hw0:a0.length<9223372036854775808:=Nat.lt_succ_of_le (yb hL0).1
 clear hL0
 simp only[pars,Nat.zero_add]
 iterate 2 refine rS ?_
 refine AWP.block ?_
 generalize hz1:yh (yup a0) (a0.length-0) 0 ()=z1 at hR
 refine AWP.range (yup a0) (fun i1 s1=>⟨[(0,encL 1 yp a0),(3,.int .i64 (i1:Int))],[]⟩) (fun i1 s1=>True) (a0.length) 0 () [] hz1 ot wt sm ?_
 clear hz1
 intro i1 s1 hi1 hW1 hz1
 refine rS ?_
 refine AWP.cond rfl (fun hb => ?_) (fun hb => ?_)
 ·have hlt1:i1<a0.length:=ot
  rw[yj hlt1]at hz1;simp only[yup]at hz1
  refine rS ?_
  refine AWP.cond rfl (fun hb => ?_) (fun hb => ?_)
  ·simp only[hb,cond_true]at hz1
   refine rS ?_
   refine AWP.ret ?_
   subst hz1
   dsimp only at hR
   subst hR
   exact es
  ·simp only[hb,cond_false]at hz1
   refine rS ?_
   exact⟨_,[],hlt1,wt,hz1,sm⟩
 ·obtain rfl:i1=a0.length:=ot
  rw[yi (Nat.le_refl _)]at hz1;subst hz1;dsimp only at hR
  refine AWP.exit ?_;refine yd ?_
  refine rS ?_
  refine AWP.ret ?_
  subst hR
  exact es
end N226
def D_zvc : DF
 | [x0]=>some (.bool (zvc (rdL ylb x0)),false,[wL 1 yp ylb x0])
 | _=>none
theorem yo1:OkD Tryz.prog 226 D_zvc:=by unfold D_zvc;exact dk N226.den
end Go.Ab

namespace Go.Ab
open Go Go.Proofs
def zve (a0:Int):Int:=
 (bif (a0 == 87)then 1 else(bif (a0 == 82)then 2 else(bif (a0 == 71)then 3 else(bif (a0 == 89)then 4 else 0))))
namespace N246
theorem DD:DOk Tryz.prog (Go.Ab.DD []):=ye _
theorem den (a0:Int)  : Den Tryz.prog 246 [.int .u8 a0] (.int .i64 (zve a0)):=by
 generalize hR:zve a0=r
 unfold zve at hR
 refine di Tryz.func246 Tryz.ntmps246 Tryz.results246 ?_
 intro c hL hc hk
 clear hL
 simp only[pars,Nat.zero_add]
 iterate 3 refine rS ?_
 refine AWP.cond rfl (fun hb => ?_) (fun hb => ?_)
 ·replace hR:=ct hR
  refine rS ?_
  refine AWP.ret ?_
  subst hR
  exact es
 ·replace hR:=cf hR
  refine rS ?_
  refine AWP.cond rfl (fun hb => ?_) (fun hb => ?_)
  ·replace hR:=ct hR
   refine rS ?_
   refine AWP.ret ?_
   subst hR
   exact es
  ·replace hR:=cf hR
   refine rS ?_
   refine AWP.cond rfl (fun hb => ?_) (fun hb => ?_)
   ·replace hR:=ct hR
    refine rS ?_
    refine AWP.ret ?_
    subst hR
    exact es
   ·replace hR:=cf hR
    refine rS ?_
    refine AWP.cond rfl (fun hb => ?_) (fun hb => ?_)
    ·replace hR:=ct hR
     refine rS ?_
     refine AWP.ret ?_
     subst hR
     exact es
    ·replace hR:=cf hR
     refine rS ?_
     refine AWP.ret ?_
     subst hR
     exact es
end N246
def D_zve : DF
 | [x0]=>some (.int .i64 (zve (rdI x0)),false,[wI .u8 x0])
 | _=>none
theorem y5x:OkD Tryz.prog 246 D_zve:=by unfold D_zve;exact dk N246.den
end Go.Ab

namespace Go.Ab
open Go Go.Proofs
def ycm (a0:(List UInt8)) (i1:Nat) (s1:Unit):Except (Bool) (Unit):=
 (bif (((zve ((a0.getD i1 0).toNat:Int)) == 0) || (decide (0<(i1:Int)) && decide ((zve ((a0.getD i1 0).toNat:Int))≤(zve ((a0.getD ((IntKind.wrap .i64 ((i1:Int)-1)).toNat) 0).toNat:Int)))))then .error false else .ok ())
def zmd (a0:(List UInt8)):Bool:=
 (match yh (ycm a0) (a0.length-0) 0 ()with|.error e=>e|.ok s1=>(decide (1≤(a0.length:Int)) && decide ((a0.length:Int)≤3)))
namespace N225
theorem DD:DOk Tryz.prog (Go.Ab.DD [(246,dP D_zve)]):=ya y5x.e <| ye _
theorem dn:type_of% (@D_zve.eq_1):=by and_intros<;>intros<;>rfl
theorem den (a0:(List UInt8))  : Den Tryz.prog 225 [.str a0] (.bool (zmd a0)):=by
 generalize hR:zmd a0=r
 unfold zmd at hR
 refine di Tryz.func225 Tryz.ntmps225 Tryz.results225 ?_
 intro c hL hc hk
 obtain⟨hL0,_⟩:=hL
 have hw0:a0.length<9223372036854775808:=Nat.lt_succ_of_le hL0
 clear hL0
 simp only[pars,Nat.zero_add]
 iterate 2 refine rS ?_
 refine AWP.block ?_
 generalize hz1:yh (ycm a0) (a0.length-0) 0 ()=z1 at hR
 refine AWP.range (ycm a0) (fun i1 s1=>⟨[(0,.str a0),(3,.int .i64 (i1:Int))],[]⟩) (fun i1 s1=>True) (a0.length) 0 () [] hz1 ot wt sm ?_
 clear hz1
 intro i1 s1 hi1 hW1 hz1
 refine rS ?_
 refine AWP.cond rfl (fun hb => ?_) (fun hb => ?_)
 ·have hlt1:i1<a0.length:=ot
  rw[yj hlt1]at hz1;simp only[ycm]at hz1
  refine rD 21 ?_
  refine AWP.cond rfl (fun hb => ?_) (fun hb => ?_)
  ·simp only[hb,cond_true]at hz1
   refine rS ?_
   refine AWP.ret ?_
   subst hz1
   dsimp only at hR
   subst hR
   exact es
  ·simp only[hb,cond_false]at hz1
   refine rS ?_
   exact⟨_,[],hlt1,wt,hz1,sm⟩
 ·obtain rfl:i1=a0.length:=ot
  rw[yi (Nat.le_refl _)]at hz1;subst hz1;dsimp only at hR
  refine AWP.exit ?_;refine yd ?_
  refine rS ?_
  refine AWP.ret ?_
  subst hR
  exact es
end N225
def D_zmd : DF
 | [x0]=>some (.bool (zmd (rdS x0)),false,[wS x0])
 | _=>none
theorem yf1:OkD Tryz.prog 225 D_zmd:=by unfold D_zmd;exact dk N225.den
end Go.Ab

namespace Go.Ab
open Go Go.Proofs
def zwg (a0:Int):Bool:=
 (zd a0 1 8)
namespace N224
theorem DD:DOk Tryz.prog (Go.Ab.DD [(137,dP D_zd)]):=ya y9d.e <| ye _
theorem dn:type_of% (@D_zd.eq_1):=by and_intros<;>intros<;>rfl
theorem ol:type_of% (@zd.eq_1):=@zd.eq_1
theorem den (a0:Int)  : Den Tryz.prog 224 [.int .i64 a0] (.bool (zwg a0)):=by
 generalize hR:zwg a0=r
 unfold zwg at hR
 refine di Tryz.func224 Tryz.ntmps224 Tryz.results224 ?_
 intro c hL hc hk
 clear hL
 simp only[pars,Nat.zero_add]
 iterate 2 refine rS ?_
 refine AWP.ret ?_
 subst hR
 exact es
end N224
def D_zwg : DF
 | [x0]=>some (.bool (zwg (rdI x0)),false,[wI .i64 x0])
 | _=>none
theorem yiy:OkD Tryz.prog 224 D_zwg:=by unfold D_zwg;exact dk N224.den
end Go.Ab

namespace Go.Ab
open Go Go.Proofs
def zwe (a0:Character):Bool:=
 (bif ((!(zwg a0.Kind)) || (!(zmd a0.Colors)))then false else(bif (a0.Kind == 1)then(((a0.Group.length:Int) == 0) && (a0.Letter == []))else(bif (a0.Kind == 3)then(((a0.Group.length:Int) == 0) && (a0.Letter == []))else(bif (a0.Kind == 6)then(bif (a0.Letter == [76])then(((a0.Group.length:Int) == 1) && ((a0.Group.getD 0 default) == 6))else(((a0.Letter == []) && decide ((a0.Group.length:Int)≤1)) && (zvc a0.Group)))else(bif (a0.Kind == 7)then(bif (a0.Letter == [76])then(((a0.Group.length:Int) == 1) && ((a0.Group.getD 0 default) == 6))else(((a0.Letter == []) && decide ((a0.Group.length:Int)≤1)) && (zvc a0.Group)))else(bif (a0.Kind == 8)then(((((a0.Group.length:Int) == 0) && ((a0.Letter.length:Int) == 1)) && decide (65≤((a0.Letter.getD 0 0).toNat:Int))) && decide (((a0.Letter.getD 0 0).toNat:Int)≤90))else((a0.Letter == []) && (zvc a0.Group))))))))
namespace N190
theorem DD:DOk Tryz.prog (Go.Ab.DD [(224,dP D_zwg),(225,dP D_zmd),(226,dP D_zvc)]):=ya yiy.e <| ya yf1.e <| ya yo1.e <| ye _
theorem dn:type_of% (And.intro @D_zwg.eq_1 <| And.intro @D_zmd.eq_1 <| @D_zvc.eq_1):=by and_intros<;>intros<;>rfl
theorem den (a0:Character)  : Den Tryz.prog 190 [.ep (eCharacter a0)] (.bool (zwe a0)):=by
 generalize hR:zwe a0=r
 unfold zwe at hR
 refine di Tryz.func190 Tryz.ntmps190 Tryz.results190 ?_
 intro c hL hc hk
 obtain⟨hL0,_⟩:=hL
 have hw0:bwCharacter a0:=yq a0 hL0
 clear hL0
 simp only[pars,Nat.zero_add]
 iterate 2 refine rS ?_
 refine AWP.cond rfl (fun hb => ?_) (fun hb => ?_)
 ·replace hR:=ct hR
  refine rS ?_
  refine AWP.ret ?_
  subst hR
  exact es
 ·replace hR:=cf hR
  iterate 2 refine rS ?_
  refine AWP.cond rfl (fun hb => ?_) (fun hb => ?_)
  ·replace hR:=ct hR
   refine AWP.skip ?_
   refine AWP.cond rfl (fun hb => ?_) (fun hb => ?_)
   ·refine rS ?_
    refine AWP.ret ?_
    subst hR
    exact es
   ·exfalso;simp_all
  ·replace hR:=cf hR
   refine rS ?_
   refine AWP.cond rfl (fun hb => ?_) (fun hb => ?_)
   ·replace hR:=ct hR
    refine rS ?_
    refine AWP.ret ?_
    subst hR
    exact es
   ·replace hR:=cf hR
    refine rS ?_
    refine AWP.cond rfl (fun hb => ?_) (fun hb => ?_)
    ·replace hR:=ct hR
     refine AWP.skip ?_
     refine AWP.cond rfl (fun hb => ?_) (fun hb => ?_)
     ·refine rS ?_
      refine AWP.cond rfl (fun hb => ?_) (fun hb => ?_)
      ·replace hR:=ct hR
       refine rS ?_
       refine AWP.ret ?_
       subst hR
       exact es
      ·replace hR:=cf hR
       refine rS ?_
       refine AWP.ret ?_
       subst hR
       exact es
     ·exfalso;simp_all
    ·replace hR:=cf hR
     refine rS ?_
     refine AWP.cond rfl (fun hb => ?_) (fun hb => ?_)
     ·replace hR:=ct hR
      refine rS ?_
      refine AWP.cond rfl (fun hb => ?_) (fun hb => ?_)
      ·replace hR:=ct hR
       refine rS ?_
       refine AWP.ret ?_
       subst hR
       exact es
      ·replace hR:=cf hR
       refine rS ?_
       refine AWP.ret ?_
       subst hR
       exact es
     ·replace hR:=cf hR
      refine rS ?_
      refine AWP.cond rfl (fun hb => ?_) (fun hb => ?_)
      ·replace hR:=ct hR
       refine rS ?_
       refine AWP.ret ?_
       subst hR
       exact es
      ·replace hR:=cf hR
       refine rS ?_
       refine AWP.ret ?_
       subst hR
       exact es
end N190
def D_zwe : DF
 | [x0]=>some (.bool (zwe (rdP yf x0)),false,[wP eCharacter yf x0])
 | _=>none
theorem y50:OkD Tryz.prog 190 D_zwe:=by unfold D_zwe;exact dk N190.den
end Go.Ab

namespace Go.Ab
open Go Go.Proofs
def y8l (a0:Int) (i1:Nat) (s1:List Int):Except ((List Int)) (List Int):=
 (bif ((((([[46,45],[45,46,46,46],[45,46,45,46],[45,46,46],[46],[46,46,45,46],[45,45,46],[46,46,46,46],[46,46],[46,45,45,45],[45,46,45],[46,45,46,46],[45,45],[45,46],[45,45,45],[46,45,45,46],[45,45,46,45],[46,45,46],[46,46,46],[45],[46,46,45],[46,46,46,45],[46,45,45],[45,46,46,45],[45,46,45,45],[45,45,46,46]]:List (List UInt8)).getD ((IntKind.wrap .u8 (a0-65)).toNat) default).getD i1 0).toNat:Int) == 46)then .ok (s1++([5]:List Int))else .ok (s1++([15]:List Int)))
def zjb (a0:Int):(List Int):=
 (match yh (y8l a0) (((([[46,45],[45,46,46,46],[45,46,45,46],[45,46,46],[46],[46,46,45,46],[45,45,46],[46,46,46,46],[46,46],[46,45,45,45],[45,46,45],[46,45,46,46],[45,45],[45,46],[45,45,45],[46,45,45,46],[45,45,46,45],[46,45,46],[46,46,46],[45],[46,46,45],[46,46,46,45],[46,45,45],[45,46,46,45],[45,46,45,45],[45,45,46,46]]:List (List UInt8)).getD ((IntKind.wrap .u8 (a0-65)).toNat) default).length)-0) 0 ([]:List Int)with|.error e=>e|.ok s1=>s1)
namespace N248
theorem DD:DOk Tryz.prog (Go.Ab.DD []):=ye _
theorem lx {p:Prop} (h:p:=by(exact lxx);first|done|fail):p:=h
theorem den (a0:Int) (hp0:65≤a0) (hp1:a0≤90):Den Tryz.prog 248 [.int .u8 a0] (ownL 2 1 yp (zjb a0)):=by
 generalize hR:zjb a0=r
 unfold zjb at hR
 refine di Tryz.func248 Tryz.ntmps248 Tryz.results248 ?_
 intro c hL hc hk
 clear hL
 simp only[pars,Nat.zero_add]
 have hs9:=y7y (IntKind.wrap .u8 (a0-65)).toNat
 have hw9:IntKind.wrap .u8 (a0-65)=a0-65:=ylj _ (by omega) (by omega)
 iterate 5 refine rS ?_
 refine AWP.block ?_
 generalize hz1:yh (y8l a0) (((([[46,45],[45,46,46,46],[45,46,45,46],[45,46,46],[46],[46,46,45,46],[45,45,46],[46,46,46,46],[46,46],[46,45,45,45],[45,46,45],[46,45,46,46],[45,45],[45,46],[45,45,45],[46,45,45,46],[45,45,46,45],[46,45,46],[46,46,46],[45],[46,46,45],[46,46,46,45],[46,45,45],[45,46,46,45],[45,46,45,45],[45,45,46,46]]:List (List UInt8)).getD ((IntKind.wrap .u8 (a0-65)).toNat) default).length)-0) 0 ([]:List Int)=z1 at hR
 refine AWP.range (y8l a0) (fun i1 s1=>⟨[(4,.str (([[46,45],[45,46,46,46],[45,46,45,46],[45,46,46],[46],[46,46,45,46],[45,45,46],[46,46,46,46],[46,46],[46,45,45,45],[45,46,45],[46,45,46,46],[45,45],[45,46],[45,45,45],[46,45,45,46],[45,45,46,45],[46,45,46],[46,46,46],[45],[46,46,45],[46,46,46,45],[46,45,45],[45,46,46,45],[45,46,45,45],[45,45,46,46]]:List (List UInt8)).getD ((IntKind.wrap .u8 (a0-65)).toNat) default)),(5,.ref 0 1 0 s1.length),(6,.int .i64 (i1:Int))],[.arr 2 1 s1.length (fun j=>yp (s1.getD j default))]⟩) (fun i1 s1=>s1.length≤([]:List Int).length+1 * i1∧s1.length≤i1) (((([[46,45],[45,46,46,46],[45,46,45,46],[45,46,46],[46],[46,46,45,46],[45,45,46],[46,46,46,46],[46,46],[46,45,45,45],[45,46,45],[46,45,46,46],[45,45],[45,46],[45,45,45],[46,45,45,46],[45,45,46,45],[46,45,46],[46,46,46],[45],[46,46,45],[46,46,46,45],[46,45,45],[45,46,46,45],[45,46,45,45],[45,45,46,46]]:List (List UInt8)).getD ((IntKind.wrap .u8 (a0-65)).toNat) default).length)) 0 ([]:List Int) [1] hz1 ot wt sm ?_
 clear hz1
 intro i1 s1 hi1 hW1 hz1
 refine rS ?_
 refine AWP.cond rfl (fun hb => ?_) (fun hb => ?_)
 ·have hlt1:i1<((([[46,45],[45,46,46,46],[45,46,45,46],[45,46,46],[46],[46,46,45,46],[45,45,46],[46,46,46,46],[46,46],[46,45,45,45],[45,46,45],[46,45,46,46],[45,45],[45,46],[45,45,45],[46,45,45,46],[45,45,46,45],[46,45,46],[46,46,46],[45],[46,46,45],[46,46,46,45],[46,45,45],[45,46,46,45],[45,46,45,45],[45,45,46,46]]:List (List UInt8)).getD ((IntKind.wrap .u8 (a0-65)).toNat) default).length):=ot
  rw[yj hlt1]at hz1;simp only[y8l]at hz1
  refine rS ?_
  refine AWP.cond rfl (fun hb => ?_) (fun hb => ?_)
  ·simp only[hb,cond_true]at hz1
   iterate 2 refine rS ?_
   exact⟨_,[2],hlt1,wt,hz1,sm⟩
  ·simp only[hb,cond_false]at hz1
   iterate 2 refine rS ?_
   exact⟨_,[2],hlt1,wt,hz1,sm⟩
 ·obtain rfl:i1=((([[46,45],[45,46,46,46],[45,46,45,46],[45,46,46],[46],[46,46,45,46],[45,45,46],[46,46,46,46],[46,46],[46,45,45,45],[45,46,45],[46,45,46,46],[45,45],[45,46],[45,45,45],[46,45,45,46],[45,45,46,45],[46,45,46],[46,46,46],[45],[46,46,45],[46,46,46,45],[46,45,45],[45,46,46,45],[45,46,45,45],[45,45,46,46]]:List (List UInt8)).getD ((IntKind.wrap .u8 (a0-65)).toNat) default).length):=ot
  rw[yi (Nat.le_refl _)]at hz1;subst hz1;dsimp only at hR
  refine AWP.exit ?_;refine yd ?_
  refine rS ?_
  refine AWP.ret ?_
  subst hR
  exact es
end N248
def D_zjb : DF
 | [x0]=>some (ownL 2 1 yp (zjb (rdI x0)),false,[wI .u8 x0,65≤(rdI x0),(rdI x0)≤90])
 | _=>none
theorem yxz:OkD Tryz.prog 248 D_zjb:=by unfold D_zjb;exact dk N248.den
end Go.Ab

namespace Go.Ab
open Go Go.Proofs
theorem yxj (a:Int):zjb a=(ynd.getD (IntKind.wrap .u8 (a-65)).toNat default).map (fun c=>if c=46 then(5:Int)else 15):=by
 have h:=yfo (y8l a) (fun j=>[if((ynd.getD (IntKind.wrap .u8 (a-65)).toNat default).getD j 0)=46 then(5:Int)else 15]) (ynd.getD (IntKind.wrap .u8 (a-65)).toNat default).length 0 [] (fun j s _ _=>by
  show(bif ((((ynd.getD (IntKind.wrap .u8 (a-65)).toNat default).getD j 0).toNat:Int) == 46)then(.ok (s++[5]):Except (List Int) (List Int))else .ok (s++[15]))=_
  generalize (ynd.getD (IntKind.wrap .u8 (a-65)).toNat default).getD j 0=c
  by_cases hc:c=46
  ·subst hc;rfl
  ·have:((c.toNat:Int) == 46)=false:=by
    rw[beq_eq_false_iff_ne]
    intro h
    exact hc (UInt8.toNat_inj.1 (by show c.toNat=46;omega))
   rw[this,if_neg hc];rfl)
 have e:zjb a=(match yh (y8l a) (ynd.getD (IntKind.wrap .u8 (a-65)).toNat default).length 0 ([]:List Int)with|.error e=>e|.ok s1=>s1):=rfl
 rw[e,h]
 simp only[List.nil_append]
 exact ytw _ 0 (fun c=>if c=46 then(5:Int)else 15)
theorem yhv (a:Int):(zjb a).length≤4:=by
 rw[yxj,List.length_map]
 exact ytj _
end Go.Ab

namespace Go.Ab
open Go Go.Proofs
def zxe (a0:Character):Bool:=
 ((a0.Kind == 1) || (((a0.Kind == 6) || (a0.Kind == 7)) && ((a0.Group.length:Int) == 0)))
namespace N191
theorem DD:DOk Tryz.prog (Go.Ab.DD []):=ye _
theorem den (a0:Character)  : Den Tryz.prog 191 [.ep (eCharacter a0)] (.bool (zxe a0)):=by
 generalize hR:zxe a0=r
 unfold zxe at hR
 refine di Tryz.func191 Tryz.ntmps191 Tryz.results191 ?_
 intro c hL hc hk
 obtain⟨hL0,_⟩:=hL
 have hw0:bwCharacter a0:=yq a0 hL0
 clear hL0
 simp only[pars,Nat.zero_add]
 iterate 2 refine rS ?_
 refine AWP.ret ?_
 subst hR
 exact es
end N191
def D_zxe : DF
 | [x0]=>some (.bool (zxe (rdP yf x0)),false,[wP eCharacter yf x0])
 | _=>none
theorem yut:OkD Tryz.prog 191 D_zxe:=by unfold D_zxe;exact dk N191.den
end Go.Ab

namespace Go.Ab
open Go Go.Proofs
def yet (a0:(List Int)) (i1:Nat) (s1:Int):Except (Int) (Int):=
 .ok (IntKind.wrap .i64 (s1+(a0.getD i1 default)))
def zpe (a0:(List Int)):Int:=
 (match yh (yet a0) (a0.length-0) 0 0 with|.error e=>e|.ok s1=>s1)
namespace N227
theorem DD:DOk Tryz.prog (Go.Ab.DD []):=ye _
theorem den (a0:(List Int))  : Den Tryz.prog 227 [encL 1 yp a0] (.int .i64 (zpe a0)):=by
 generalize hR:zpe a0=r
 unfold zpe at hR
 refine di Tryz.func227 Tryz.ntmps227 Tryz.results227 ?_
 intro c hL hc hk
 obtain⟨hL0,_⟩:=hL
 have hw0:a0.length<9223372036854775808:=Nat.lt_succ_of_le (yb hL0).1
 clear hL0
 simp only[pars,Nat.zero_add]
 iterate 3 refine rS ?_
 refine AWP.block ?_
 generalize hz1:yh (yet a0) (a0.length-0) 0 0=z1 at hR
 refine AWP.range (yet a0) (fun i1 s1=>⟨[(0,encL 1 yp a0),(3,.int .i64 s1),(4,.int .i64 (i1:Int))],[]⟩) (fun i1 s1=>True) (a0.length) 0 0 [] hz1 ot wt sm ?_
 clear hz1
 intro i1 s1 hi1 hW1 hz1
 refine rS ?_
 refine AWP.cond rfl (fun hb => ?_) (fun hb => ?_)
 ·have hlt1:i1<a0.length:=ot
  rw[yj hlt1]at hz1;simp only[yet]at hz1
  iterate 2 refine rS ?_
  exact⟨_,[],hlt1,wt,hz1,sm⟩
 ·obtain rfl:i1=a0.length:=ot
  rw[yi (Nat.le_refl _)]at hz1;subst hz1;dsimp only at hR
  refine AWP.exit ?_;refine yd ?_
  refine rS ?_
  refine AWP.ret ?_
  subst hR
  exact es
end N227
def D_zpe : DF
 | [x0]=>some (.int .i64 (zpe (rdL ylb x0)),false,[wL 1 yp ylb x0])
 | _=>none
theorem yd0:OkD Tryz.prog 227 D_zpe:=by unfold D_zpe;exact dk N227.den
end Go.Ab

namespace Go.Ab
open Go Go.Proofs
def zcd (a0:Int):Int:=
 (bif (a0 == 2)then 10 else(bif (a0 == 4)then 15 else(bif (a0 == 5)then 20 else(bif (a0 == 7)then 3 else 5))))
namespace N249
theorem DD:DOk Tryz.prog (Go.Ab.DD []):=ye _
theorem den (a0:Int)  : Den Tryz.prog 249 [.int .i64 a0] (.int .i64 (zcd a0)):=by
 generalize hR:zcd a0=r
 unfold zcd at hR
 refine di Tryz.func249 Tryz.ntmps249 Tryz.results249 ?_
 intro c hL hc hk
 clear hL
 simp only[pars,Nat.zero_add]
 iterate 3 refine rS ?_
 refine AWP.cond rfl (fun hb => ?_) (fun hb => ?_)
 ·replace hR:=ct hR
  refine rS ?_
  refine AWP.ret ?_
  subst hR
  exact es
 ·replace hR:=cf hR
  refine rS ?_
  refine AWP.cond rfl (fun hb => ?_) (fun hb => ?_)
  ·replace hR:=ct hR
   refine rS ?_
   refine AWP.ret ?_
   subst hR
   exact es
  ·replace hR:=cf hR
   refine rS ?_
   refine AWP.cond rfl (fun hb => ?_) (fun hb => ?_)
   ·replace hR:=ct hR
    refine rS ?_
    refine AWP.ret ?_
    subst hR
    exact es
   ·replace hR:=cf hR
    refine rS ?_
    refine AWP.cond rfl (fun hb => ?_) (fun hb => ?_)
    ·replace hR:=ct hR
     refine rS ?_
     refine AWP.ret ?_
     subst hR
     exact es
    ·replace hR:=cf hR
     refine rS ?_
     refine AWP.ret ?_
     subst hR
     exact es
end N249
def D_zcd : DF
 | [x0]=>some (.int .i64 (zcd (rdI x0)),false,[wI .i64 x0])
 | _=>none
theorem yns:OkD Tryz.prog 249 D_zcd:=by unfold D_zcd;exact dk N249.den
end Go.Ab

namespace Go.Ab
open Go Go.Proofs
def zqe (a0:Int):Int:=
 (bif (a0 == 2)then 10 else(bif (a0 == 5)then 20 else(bif (a0 == 7)then 2 else 5)))
namespace N250
theorem DD:DOk Tryz.prog (Go.Ab.DD []):=ye _
theorem den (a0:Int)  : Den Tryz.prog 250 [.int .i64 a0] (.int .i64 (zqe a0)):=by
 generalize hR:zqe a0=r
 unfold zqe at hR
 refine di Tryz.func250 Tryz.ntmps250 Tryz.results250 ?_
 intro c hL hc hk
 clear hL
 simp only[pars,Nat.zero_add]
 iterate 3 refine rS ?_
 refine AWP.cond rfl (fun hb => ?_) (fun hb => ?_)
 ·replace hR:=ct hR
  refine rS ?_
  refine AWP.ret ?_
  subst hR
  exact es
 ·replace hR:=cf hR
  refine rS ?_
  refine AWP.cond rfl (fun hb => ?_) (fun hb => ?_)
  ·replace hR:=ct hR
   refine rS ?_
   refine AWP.ret ?_
   subst hR
   exact es
  ·replace hR:=cf hR
   refine rS ?_
   refine AWP.cond rfl (fun hb => ?_) (fun hb => ?_)
   ·replace hR:=ct hR
    refine rS ?_
    refine AWP.ret ?_
    subst hR
    exact es
   ·replace hR:=cf hR
    refine rS ?_
    refine AWP.ret ?_
    subst hR
    exact es
end N250
def D_zqe : DF
 | [x0]=>some (.int .i64 (zqe (rdI x0)),false,[wI .i64 x0])
 | _=>none
theorem yfz:OkD Tryz.prog 250 D_zqe:=by unfold D_zqe;exact dk N250.den
end Go.Ab

namespace Go.Ab
open Go Go.Proofs
def yau (a0:Character) (i1:Nat) (s1:List Int):Except ((List Int)) (List Int):=
 (bif decide (0<(i1:Int))then .ok ((s1++([5]:List Int))++([((zjb ((a0.Letter.getD 0 0).toNat:Int)).getD i1 default)]:List Int))else .ok (s1++([((zjb ((a0.Letter.getD 0 0).toNat:Int)).getD i1 default)]:List Int)))
def y8t (a0:Character) (i2:Nat) (s2:List Int) (i3:Nat) (s3:List Int):Except ((List Int)) (List Int):=
 (bif decide (0<(i3:Int))then .ok ((s3++([(zcd a0.Kind)]:List Int))++([(zqe a0.Kind)]:List Int))else(bif decide (0<(i2:Int))then .ok ((s3++([IntKind.wrap .i64 ((zcd a0.Kind)+20)]:List Int))++([(zqe a0.Kind)]:List Int))else .ok (s3++([(zqe a0.Kind)]:List Int))))
def y0u (a0:Character) (i2:Nat) (s2:List Int):Except ((List Int)) (List Int):=
 (match yh (y8t a0 i2 s2) (((([1]:List Int).getD i2 default)).toNat-0) 0 s2 with|.error e=>.error e|.ok s3=>.ok s3)
def you (a0:Character) (i4:Nat) (s4:List Int) (i5:Nat) (s5:List Int):Except ((List Int)) (List Int):=
 (bif decide (0<(i5:Int))then .ok ((s5++([(zcd a0.Kind)]:List Int))++([(zqe a0.Kind)]:List Int))else(bif decide (0<(i4:Int))then .ok ((s5++([IntKind.wrap .i64 ((zcd a0.Kind)+20)]:List Int))++([(zqe a0.Kind)]:List Int))else .ok (s5++([(zqe a0.Kind)]:List Int))))
def yku (a0:Character) (i4:Nat) (s4:List Int):Except ((List Int)) (List Int):=
 (match yh (you a0 i4 s4) (((a0.Group.getD i4 default)).toNat-0) 0 s4 with|.error e=>.error e|.ok s5=>.ok s5)
def zk (a0:Character):(List Int):=
 (bif (a0.Kind == 8)then(match yh (yau a0) (((zjb ((a0.Letter.getD 0 0).toNat:Int)).length)-0) 0 ([]:List Int)with|.error e=>e|.ok s1=>s1)else(bif ((a0.Group.length:Int) == 0)then(match yh (y0u a0) (1-0) 0 ([]:List Int)with|.error e=>e|.ok s2=>(bif (a0.Letter == [76])then s2++([(zcd a0.Kind),20]:List Int)else s2))else(match yh (yku a0) (a0.Group.length-0) 0 ([]:List Int)with|.error e=>e|.ok s4=>(bif (a0.Letter == [76])then s4++([(zcd a0.Kind),20]:List Int)else s4))))
namespace N228
theorem DD:DOk Tryz.prog (Go.Ab.DD [(248,dP D_zjb),(249,dP D_zcd),(250,dP D_zqe)]):=ya yxz.e <| ya yns.e <| ya yfz.e <| ye _
theorem dn:type_of% (And.intro @D_zjb.eq_1 <| And.intro @D_zcd.eq_1 <| @D_zqe.eq_1):=by and_intros<;>intros<;>rfl
theorem o2 {p:Prop} (h:p:=by(first|(and_intros<;>first|decide|omega|(simp;(first|done|fail))|(rw[IntKind.wrap_i64];have:=hg9 i4;omega)|(rw[IntKind.wrap_i64];have:=hg1 i2;omega)|(rw[IntKind.wrap_i64];omega)|(intro i hi;exact ysm _ _ i hi)|(intro i hi;exact ydo _ _ _ i hi)));first|done|fail):p:=h
theorem o3 {p:Prop} (h:p:=by(first|(refine⟨⟨Nat.le_refl _,fun i hi=>yuo _ _ _ i hi⟩,.inl fun i hi=>by rw[yui _ _ _ i hi];simp[NoBorL,NoBor],by simp,fun i hi=>by rw[yui _ _ _ i hi];exact yjb _⟩));first|done|fail):p:=h
theorem lx {p:Prop} (h:p:=by(exact lxx);first|done|fail):p:=h
set_option maxHeartbeats 1000000 in
set_option maxRecDepth 20000 in
theorem den (a0:Character) (hb0:bdCharacter a0) (hp0:a0.Group.length≤4) (hp1:∀ v∈a0.Group,v≤9) (hp2:a0.Kind=8→a0.Letter.length=1∧65≤(a0.Letter.getD 0 0).toNat∧(a0.Letter.getD 0 0).toNat≤90):Den Tryz.prog 228 [.ep (eCharacter a0)] (ownL 2 1 yp (zk a0)):=by
 generalize hR:zk a0=r
 unfold zk at hR
 refine di Tryz.func228 Tryz.ntmps228 Tryz.results228 ?_
 intro c hL hc hk
 obtain⟨hL0,_⟩:=hL
 have hw0:bwCharacter a0:=yq a0 hL0
 clear hL0
 simp only[pars,Nat.zero_add]
 have hg9:∀ i:Nat,a0.Group.getD i default≤9:=fun i=>y5m hp1 i
 have hs9:=yhv ((a0.Letter.getD 0 0).toNat:Int)
 have hg1:∀ i:Nat,([1]:List Int).getD i default≤9:=fun i=>y5m (by simp) i
 iterate 3 refine rS ?_
 refine AWP.cond rfl (fun hb => ?_) (fun hb => ?_)
 ·replace hR:=ct hR
  iterate 2 refine rS ?_
  refine AWP.block ?_
  generalize hz1:yh (yau a0) (((zjb ((a0.Letter.getD 0 0).toNat:Int)).length)-0) 0 ([]:List Int)=z1 at hR
  refine AWP.range (yau a0) (fun i1 s1=>⟨[(3,.ref 0 1 0 s1.length),(4,.ref 1 1 0 ((zjb ((a0.Letter.getD 0 0).toNat:Int)).length)),(5,.int .i64 (i1:Int))],[.arr 2 1 s1.length (fun j=>yp (s1.getD j default)),.arr 2 1 (zjb ((a0.Letter.getD 0 0).toNat:Int)).length (fun j=>yp ((zjb ((a0.Letter.getD 0 0).toNat:Int)).getD j default))]⟩) (fun i1 s1=>s1.length≤([]:List Int).length+2 * i1∧s1.length≤2 * i1) (((zjb ((a0.Letter.getD 0 0).toNat:Int)).length)) 0 ([]:List Int) [0,1] hz1 ot wt sm ?_
  clear hz1
  intro i1 s1 hi1 hW1 hz1
  refine rS ?_
  refine AWP.cond rfl (fun hb => ?_) (fun hb => ?_)
  ·have hlt1:i1<((zjb ((a0.Letter.getD 0 0).toNat:Int)).length):=ot
   rw[yj hlt1]at hz1;simp only[yau]at hz1
   refine rS ?_
   refine AWP.cond rfl (fun hb => ?_) (fun hb => ?_)
   ·simp only[hb,cond_true]at hz1
    iterate 3 refine rS ?_
    exact⟨_,[5,1],hlt1,wt,hz1,sm⟩
   ·simp only[hb,cond_false]at hz1
    iterate 2 refine rS ?_
    exact⟨_,[3,1],hlt1,wt,hz1,sm⟩
  ·obtain rfl:i1=((zjb ((a0.Letter.getD 0 0).toNat:Int)).length):=ot
   rw[yi (Nat.le_refl _)]at hz1;subst hz1;dsimp only at hR
   refine AWP.exit ?_;refine yd ?_
   refine rS ?_
   refine AWP.ret ?_
   subst hR
   exact es
 ·replace hR:=cf hR
  iterate 2 refine rS ?_
  refine AWP.cond rfl (fun hb => ?_) (fun hb => ?_)
  ·replace hR:=ct hR
   iterate 2 refine rS ?_
   refine AWP.block ?_
   generalize hz2:yh (y0u a0) (1-0) 0 ([]:List Int)=z2 at hR
   refine AWP.range (y0u a0) (fun i2 s2=>⟨[(0,.ep (eCharacter a0)),(3,.ref 0 1 0 s2.length),(6,.ref 1 1 0 1),(7,.int .i64 (i2:Int))],[.arr 2 1 s2.length (fun j=>yp (s2.getD j default)),.arr 2 1 ([1]:List Int).length (fun j=>yp (([1]:List Int).getD j default))]⟩) (fun i2 s2=>s2.length≤18 * i2) (1) 0 ([]:List Int) [0,1] hz2 ot wt sm ?_
   clear hz2
   intro i2 s2 hi2 hW2 hz2
   refine rS ?_
   refine AWP.cond rfl (fun hb => ?_) (fun hb => ?_)
   ·have hlt2:i2<1:=ot
    rw[yj hlt2]at hz2;simp only[y0u]at hz2
    refine rS ?_
    refine AWP.block ?_
    generalize hz3:yh (y8t a0 i2 s2) (((([1]:List Int).getD i2 default)).toNat-0) 0 s2=z3 at hz2
    refine AWP.range (y8t a0 i2 s2) (fun i3 s3=>⟨[(0,.ep (eCharacter a0)),(3,.ref 0 1 0 s3.length),(6,.ref 1 1 0 1),(7,.int .i64 (i2:Int)),(8,.int .i64 (i3:Int))],[.arr 2 1 s3.length (fun j=>yp (s3.getD j default)),.arr 2 1 ([1]:List Int).length (fun j=>yp (([1]:List Int).getD j default))]⟩) (fun i3 s3=>s3.length≤s2.length+2 * i3∧s3.length≤18 * i2+2 * i3) (((([1]:List Int).getD i2 default)).toNat) 0 s2 [0,1] hz3 ot wt sm ?_
    clear hz3
    intro i3 s3 hi3 hW3 hz3
    refine rS ?_
    refine AWP.cond rfl (fun hb => ?_) (fun hb => ?_)
    ·have hlt3:i3<((([1]:List Int).getD i2 default)).toNat:=ot
     rw[yj hlt3]at hz3;simp only[y8t]at hz3
     refine rS ?_
     refine AWP.cond rfl (fun hb => ?_) (fun hb => ?_)
     ·simp only[hb,cond_true]at hz3
      iterate 3 refine rS ?_
      exact⟨_,[5,1],hlt3,wt,hz3,sm⟩
     ·simp only[hb,cond_false]at hz3
      refine rS ?_
      refine AWP.cond rfl (fun hb => ?_) (fun hb => ?_)
      ·simp only[hb,cond_true]at hz3
       iterate 3 refine rS ?_
       exact⟨_,[5,1],hlt3,wt,hz3,sm⟩
      ·simp only[hb,cond_false]at hz3
       iterate 2 refine rS ?_
       exact⟨_,[3,1],hlt3,wt,hz3,sm⟩
    ·obtain rfl:i3=((([1]:List Int).getD i2 default)).toNat:=ot
     rw[yi (Nat.le_refl _)]at hz3;subst hz3;dsimp only at hz2
     refine AWP.exit ?_;refine yd ?_
     refine rS ?_
     exact⟨_,[0,1],hlt2,by(have h9:=hg1 i2;omega),hz2,sm⟩
   ·obtain rfl:i2=1:=ot
    rw[yi (Nat.le_refl _)]at hz2;subst hz2;dsimp only at hR
    refine AWP.exit ?_;refine yd ?_
    refine rS ?_
    refine AWP.cond rfl (fun hb => ?_) (fun hb => ?_)
    ·replace hR:=ct hR
     iterate 2 refine rS ?_
     refine AWP.ret ?_
     subst hR
     exact es
    ·replace hR:=cf hR
     refine rS ?_
     refine AWP.ret ?_
     subst hR
     exact es
  ·replace hR:=cf hR
   refine rS ?_
   refine AWP.block ?_
   refine AWP.lensS 6 rfl (fun hLn4 => ?_)
   generalize hz4:yh (yku a0) (a0.Group.length-0) 0 ([]:List Int)=z4 at hR
   refine AWP.range (yku a0) (fun i4 s4=>⟨[(0,.ep (eCharacter a0)),(3,.ref 0 1 0 s4.length),(6,encL 1 yp a0.Group),(7,.int .i64 (i4:Int))],[.arr 2 1 s4.length (fun j=>yp (s4.getD j default))]⟩) (fun i4 s4=>s4.length≤18 * i4) (a0.Group.length) 0 ([]:List Int) [0] hz4 ot wt sm ?_
   clear hz4
   intro i4 s4 hi4 hW4 hz4
   refine rS ?_
   refine AWP.cond rfl (fun hb => ?_) (fun hb => ?_)
   ·have hlt4:i4<a0.Group.length:=ot
    rw[yj hlt4]at hz4;simp only[yku]at hz4
    refine rS ?_
    refine AWP.block ?_
    generalize hz5:yh (you a0 i4 s4) (((a0.Group.getD i4 default)).toNat-0) 0 s4=z5 at hz4
    refine AWP.range (you a0 i4 s4) (fun i5 s5=>⟨[(0,.ep (eCharacter a0)),(3,.ref 0 1 0 s5.length),(6,encL 1 yp a0.Group),(7,.int .i64 (i4:Int)),(8,.int .i64 (i5:Int))],[.arr 2 1 s5.length (fun j=>yp (s5.getD j default))]⟩) (fun i5 s5=>s5.length≤s4.length+2 * i5∧s5.length≤18 * i4+2 * i5) (((a0.Group.getD i4 default)).toNat) 0 s4 [0] hz5 ot wt sm ?_
    clear hz5
    intro i5 s5 hi5 hW5 hz5
    refine rS ?_
    refine AWP.cond rfl (fun hb => ?_) (fun hb => ?_)
    ·have hlt5:i5<((a0.Group.getD i4 default)).toNat:=ot
     rw[yj hlt5]at hz5;simp only[you]at hz5
     refine rS ?_
     refine AWP.cond rfl (fun hb => ?_) (fun hb => ?_)
     ·simp only[hb,cond_true]at hz5
      iterate 3 refine rS ?_
      exact⟨_,[4],hlt5,wt,hz5,sm⟩
     ·simp only[hb,cond_false]at hz5
      refine rS ?_
      refine AWP.cond rfl (fun hb => ?_) (fun hb => ?_)
      ·simp only[hb,cond_true]at hz5
       iterate 3 refine rS ?_
       exact⟨_,[4],hlt5,wt,hz5,sm⟩
      ·simp only[hb,cond_false]at hz5
       iterate 2 refine rS ?_
       exact⟨_,[2],hlt5,wt,hz5,sm⟩
    ·obtain rfl:i5=((a0.Group.getD i4 default)).toNat:=ot
     rw[yi (Nat.le_refl _)]at hz5;subst hz5;dsimp only at hz4
     refine AWP.exit ?_;refine yd ?_
     refine rS ?_
     exact⟨_,[0],hlt4,by(have h9:=hg9 i4;omega),hz4,sm⟩
   ·obtain rfl:i4=a0.Group.length:=ot
    rw[yi (Nat.le_refl _)]at hz4;subst hz4;dsimp only at hR
    refine AWP.exit ?_;refine yd ?_
    refine rS ?_
    refine AWP.cond rfl (fun hb => ?_) (fun hb => ?_)
    ·replace hR:=ct hR
     iterate 2 refine rS ?_
     refine AWP.ret ?_
     subst hR
     exact es
    ·replace hR:=cf hR
     refine rS ?_
     refine AWP.ret ?_
     subst hR
     exact es
end N228
def D_zk : DF
 | [x0]=>some (ownL 2 1 yp (zk (rdP yf x0)),false,[wP eCharacter yf x0,bdCharacter (rdP yf x0),(rdP yf x0).Group.length≤4,∀ v∈(rdP yf x0).Group,v≤9,(rdP yf x0).Kind=8→(rdP yf x0).Letter.length=1∧65≤((rdP yf x0).Letter.getD 0 0).toNat∧((rdP yf x0).Letter.getD 0 0).toNat≤90])
 | _=>none
theorem ym3:OkD Tryz.prog 228 D_zk:=by unfold D_zk;exact dk N228.den
end Go.Ab

namespace Go.Ab
open Go Go.Proofs
def zxg (a0:Character):Int:=
 (bif (a0.Kind == 6)then 20 else(bif (a0.Kind == 7)then 10 else(bif (a0.Kind == 8)then 30 else(bif decide (1<(a0.Group.length:Int))then IntKind.wrap .i64 ((IntKind.wrap .i64 ((zcd a0.Kind)+5))+20)else IntKind.wrap .i64 ((zcd a0.Kind)+5)))))
namespace N229
theorem DD:DOk Tryz.prog (Go.Ab.DD [(249,dP D_zcd)]):=ya yns.e <| ye _
theorem dn:type_of% (@D_zcd.eq_1):=by and_intros<;>intros<;>rfl
theorem den (a0:Character)  : Den Tryz.prog 229 [.ep (eCharacter a0)] (.int .i64 (zxg a0)):=by
 generalize hR:zxg a0=r
 unfold zxg at hR
 refine di Tryz.func229 Tryz.ntmps229 Tryz.results229 ?_
 intro c hL hc hk
 obtain⟨hL0,_⟩:=hL
 have hw0:bwCharacter a0:=yq a0 hL0
 clear hL0
 simp only[pars,Nat.zero_add]
 iterate 3 refine rS ?_
 refine AWP.cond rfl (fun hb => ?_) (fun hb => ?_)
 ·replace hR:=ct hR
  refine rS ?_
  refine AWP.ret ?_
  subst hR
  exact es
 ·replace hR:=cf hR
  refine rS ?_
  refine AWP.cond rfl (fun hb => ?_) (fun hb => ?_)
  ·replace hR:=ct hR
   refine rS ?_
   refine AWP.ret ?_
   subst hR
   exact es
  ·replace hR:=cf hR
   refine rS ?_
   refine AWP.cond rfl (fun hb => ?_) (fun hb => ?_)
   ·replace hR:=ct hR
    refine rS ?_
    refine AWP.ret ?_
    subst hR
    exact es
   ·replace hR:=cf hR
    iterate 2 refine rS ?_
    refine AWP.cond rfl (fun hb => ?_) (fun hb => ?_)
    ·replace hR:=ct hR
     iterate 2 refine rS ?_
     refine AWP.ret ?_
     subst hR
     exact es
    ·replace hR:=cf hR
     refine rS ?_
     refine AWP.ret ?_
     subst hR
     exact es
end N229
def D_zxg : DF
 | [x0]=>some (.int .i64 (zxg (rdP yf x0)),false,[wP eCharacter yf x0])
 | _=>none
theorem yh0:OkD Tryz.prog 229 D_zxg:=by unfold D_zxg;exact dk N229.den
end Go.Ab

namespace Go.Ab
open Go Go.Proofs
def zhg (a0:Character):Int:=
 (bif (zxe a0)then 0 else(bif (a0.Kind == 3)then 20 else IntKind.wrap .i64 ((zpe (zk a0))+(zxg a0))))
namespace N192
theorem DD:DOk Tryz.prog (Go.Ab.DD [(191,dP D_zxe),(227,dP D_zpe),(228,dP D_zk),(229,dP D_zxg)]):=ya yut.e <| ya yd0.e <| ya ym3.e <| ya yh0.e <| ye _
theorem dn:type_of% (And.intro @D_zxe.eq_1 <| And.intro @D_zpe.eq_1 <| And.intro @D_zk.eq_1 <| @D_zxg.eq_1):=by and_intros<;>intros<;>rfl
theorem den (a0:Character) (hb0:bdCharacter a0) (hp0:a0.Group.length≤4) (hp1:∀ v∈a0.Group,v≤9) (hp2:a0.Kind=8→a0.Letter.length=1∧65≤(a0.Letter.getD 0 0).toNat∧(a0.Letter.getD 0 0).toNat≤90):Den Tryz.prog 192 [.ep (eCharacter a0)] (.int .i64 (zhg a0)):=by
 generalize hR:zhg a0=r
 unfold zhg at hR
 refine di Tryz.func192 Tryz.ntmps192 Tryz.results192 ?_
 intro c hL hc hk
 obtain⟨hL0,_⟩:=hL
 have hw0:bwCharacter a0:=yq a0 hL0
 clear hL0
 simp only[pars,Nat.zero_add]
 iterate 2 refine rS ?_
 refine AWP.cond rfl (fun hb => ?_) (fun hb => ?_)
 ·replace hR:=ct hR
  refine rS ?_
  refine AWP.ret ?_
  subst hR
  exact es
 ·replace hR:=cf hR
  refine rS ?_
  refine AWP.cond rfl (fun hb => ?_) (fun hb => ?_)
  ·replace hR:=ct hR
   refine rS ?_
   refine AWP.ret ?_
   subst hR
   exact es
  ·replace hR:=cf hR
   refine rS ?_
   refine AWP.ret ?_
   subst hR
   exact es
end N192
def D_zhg : DF
 | [x0]=>some (.int .i64 (zhg (rdP yf x0)),false,[wP eCharacter yf x0,bdCharacter (rdP yf x0),(rdP yf x0).Group.length≤4,∀ v∈(rdP yf x0).Group,v≤9,(rdP yf x0).Kind=8→(rdP yf x0).Letter.length=1∧65≤((rdP yf x0).Letter.getD 0 0).toNat∧((rdP yf x0).Letter.getD 0 0).toNat≤90])
 | _=>none
theorem yvz:OkD Tryz.prog 192 D_zhg:=by unfold D_zhg;exact dk N192.den
end Go.Ab

namespace Go.Ab
open Go Go.Proofs
def zig (a0:Sector):Bool:=
 ((zd a0.From 0 359) && (zd a0.To 0 359))
namespace N230
theorem DD:DOk Tryz.prog (Go.Ab.DD [(137,dP D_zd)]):=ya y9d.e <| ye _
theorem dn:type_of% (@D_zd.eq_1):=by and_intros<;>intros<;>rfl
theorem ol:type_of% (@zd.eq_1):=@zd.eq_1
theorem den (a0:Sector)  : Den Tryz.prog 230 [.ep (eSector a0)] (.bool (zig a0)):=by
 generalize hR:zig a0=r
 unfold zig at hR
 refine di Tryz.func230 Tryz.ntmps230 Tryz.results230 ?_
 intro c hL hc hk
 obtain⟨hL0,_⟩:=hL
 have hw0:bwSector a0:=yr a0 hL0
 clear hL0
 simp only[pars,Nat.zero_add]
 iterate 2 refine rS ?_
 refine AWP.ret ?_
 subst hR
 exact es
end N230
def D_zig : DF
 | [x0]=>some (.bool (zig (rdP yn x0)),false,[wP eSector yn x0])
 | _=>none
theorem yay:OkD Tryz.prog 230 D_zig:=by unfold D_zig;exact dk N230.den
end Go.Ab

namespace Go.Ab
open Go Go.Proofs
def zjg (a0:(List UInt8)):Bool:=
 ((((a0 == [87]) || (a0 == [82])) || (a0 == [71])) || (a0 == [89]))
namespace N231
theorem DD:DOk Tryz.prog (Go.Ab.DD []):=ye _
theorem den (a0:(List UInt8))  : Den Tryz.prog 231 [.str a0] (.bool (zjg a0)):=by
 generalize hR:zjg a0=r
 unfold zjg at hR
 refine di Tryz.func231 Tryz.ntmps231 Tryz.results231 ?_
 intro c hL hc hk
 obtain⟨hL0,_⟩:=hL
 have hw0:a0.length<9223372036854775808:=Nat.lt_succ_of_le hL0
 clear hL0
 simp only[pars,Nat.zero_add]
 iterate 2 refine rS ?_
 refine AWP.ret ?_
 subst hR
 exact es
end N231
def D_zjg : DF
 | [x0]=>some (.bool (zjg (rdS x0)),false,[wS x0])
 | _=>none
theorem yqx:OkD Tryz.prog 231 D_zjg:=by unfold D_zjg;exact dk N231.den
end Go.Ab

namespace Go.Ab
open Go Go.Proofs
def zee (a0:Sector):Bool:=
 ((zig a0) && (zjg a0.Color))
namespace N193
theorem DD:DOk Tryz.prog (Go.Ab.DD [(230,dP D_zig),(231,dP D_zjg)]):=ya yay.e <| ya yqx.e <| ye _
theorem dn:type_of% (And.intro @D_zig.eq_1 <| @D_zjg.eq_1):=by and_intros<;>intros<;>rfl
theorem den (a0:Sector)  : Den Tryz.prog 193 [.ep (eSector a0)] (.bool (zee a0)):=by
 generalize hR:zee a0=r
 unfold zee at hR
 refine di Tryz.func193 Tryz.ntmps193 Tryz.results193 ?_
 intro c hL hc hk
 obtain⟨hL0,_⟩:=hL
 have hw0:bwSector a0:=yr a0 hL0
 clear hL0
 simp only[pars,Nat.zero_add]
 iterate 2 refine rS ?_
 refine AWP.ret ?_
 subst hR
 exact es
end N193
def D_zee : DF
 | [x0]=>some (.bool (zee (rdP yn x0)),false,[wP eSector yn x0])
 | _=>none
theorem yr0:OkD Tryz.prog 193 D_zee:=by unfold D_zee;exact dk N193.den
end Go.Ab

namespace Go.Ab
open Go Go.Proofs
def zkg (a0:Sector):Int:=
 (bif (((IntKind.wrap .i64 ((IntKind.wrap .i64 (a0.To-a0.From))+360)).tmod 360) == 0)then 360 else(IntKind.wrap .i64 ((IntKind.wrap .i64 (a0.To-a0.From))+360)).tmod 360)
namespace N194
theorem DD:DOk Tryz.prog (Go.Ab.DD []):=ye _
theorem den (a0:Sector)  : Den Tryz.prog 194 [.ep (eSector a0)] (.int .i64 (zkg a0)):=by
 generalize hR:zkg a0=r
 unfold zkg at hR
 refine di Tryz.func194 Tryz.ntmps194 Tryz.results194 ?_
 intro c hL hc hk
 obtain⟨hL0,_⟩:=hL
 have hw0:bwSector a0:=yr a0 hL0
 clear hL0
 simp only[pars,Nat.zero_add]
 refine rS ?_
 refine rD 11 ?_
 refine rS ?_
 refine AWP.cond rfl (fun hb => ?_) (fun hb => ?_)
 ·replace hR:=ct hR
  refine rS ?_
  refine AWP.ret ?_
  subst hR
  exact es
 ·replace hR:=cf hR
  refine rS ?_
  refine AWP.ret ?_
  subst hR
  exact es
end N194
def D_zkg : DF
 | [x0]=>some (.int .i64 (zkg (rdP yn x0)),false,[wP eSector yn x0])
 | _=>none
theorem yrz:OkD Tryz.prog 194 D_zkg:=by unfold D_zkg;exact dk N194.den
end Go.Ab

namespace Go.Ab
open Go Go.Proofs
def ytn (a0:(List Sector)) (i1:Nat) (s1:Unit):Except (Bool) (Unit):=
 (bif ((!(zee (a0.getD i1 default))) || (decide (0<(i1:Int)) && decide (((a0.getD i1 default).From)≤((a0.getD ((IntKind.wrap .i64 ((i1:Int)-1)).toNat) default).From))))then .error false else .ok ())
def yxk (a0:(List Sector)) (s1:Unit) (s2:Int):Except (Sum (Bool) (Int)) (Int):=
 (bif (decide (s2<(a0.length:Int)) && decide (1<(a0.length:Int)))then(bif decide (((IntKind.wrap .i64 ((IntKind.wrap .i64 (((a0.getD (((IntKind.wrap .i64 (s2+1)).tmod (a0.length:Int)).toNat) default).From)-((a0.getD ((s2).toNat) default).From)))+360)).tmod 360)<(zkg (a0.getD ((s2).toNat) default)))then .error (.inl false)else .ok (IntKind.wrap .i64 (s2+1)))else .error (.inr s2))
def zub (a0:(List Sector)):Bool:=
 (bif decide (12<(a0.length:Int))then false else(match yh (ytn a0) (a0.length-0) 0 ()with|.error e=>e|.ok s1=>(match yyd (yxk a0 s1) ((a0.length-((0:Int)).toNat)+1) 0 with|.error (.inl e)=>e|.error (.inr s2)=>true|.ok _=>default)))
namespace N153
theorem DD:DOk Tryz.prog (Go.Ab.DD [(193,dP D_zee),(194,dP D_zkg)]):=ya yr0.e <| ya yrz.e <| ye _
theorem dn:type_of% (And.intro @D_zee.eq_1 <| @D_zkg.eq_1):=by and_intros<;>intros<;>rfl
theorem o0 {p:Prop} (h:p:=by(first|(have hb2:=hb;simp only[Bool.and_eq_true,decide_eq_true_eq]at hb2;have h9:=yl4 hW2.1 hb2.1 (by omega);and_intros<;>first|omega|exact h9.1|exact h9.2));first|done|fail):p:=h
theorem den (a0:(List Sector))  : Den Tryz.prog 153 [encL 3 eSector a0] (.bool (zub a0)):=by
 generalize hR:zub a0=r
 unfold zub at hR
 refine di Tryz.func153 Tryz.ntmps153 Tryz.results153 ?_
 intro c hL hc hk
 obtain⟨hL0,_⟩:=hL
 have hw0:a0.length<9223372036854775808:=Nat.lt_succ_of_le (yb hL0).1
 have hw1:∀ v∈a0,bwSector v:=fun v hv=>yr v ((yb hL0).2 v hv)
 clear hL0
 simp only[pars,Nat.zero_add]
 iterate 3 refine rS ?_
 refine AWP.cond rfl (fun hb => ?_) (fun hb => ?_)
 ·replace hR:=ct hR
  refine rS ?_
  refine AWP.ret ?_
  subst hR
  exact es
 ·replace hR:=cf hR
  refine rS ?_
  refine AWP.block ?_
  generalize hz1:yh (ytn a0) (a0.length-0) 0 ()=z1 at hR
  refine AWP.range (ytn a0) (fun i1 s1=>⟨[(0,encL 3 eSector a0),(3,.int .i64 (a0.length:Int)),(4,.int .i64 (i1:Int))],[]⟩) (fun i1 s1=>True) (a0.length) 0 () [] hz1 ot wt sm ?_
  clear hz1
  intro i1 s1 hi1 hW1 hz1
  refine rS ?_
  refine AWP.cond rfl (fun hb => ?_) (fun hb => ?_)
  ·have hlt1:i1<a0.length:=ot
   rw[yj hlt1]at hz1;simp only[ytn]at hz1
   refine rD 23 ?_
   refine AWP.cond rfl (fun hb => ?_) (fun hb => ?_)
   ·simp only[hb,cond_true]at hz1
    refine rS ?_
    refine AWP.ret ?_
    subst hz1
    dsimp only at hR
    subst hR
    exact es
   ·simp only[hb,cond_false]at hz1
    refine rS ?_
    exact⟨_,[],hlt1,wt,hz1,sm⟩
  ·obtain rfl:i1=a0.length:=ot
   rw[yi (Nat.le_refl _)]at hz1;subst hz1;dsimp only at hR
   refine AWP.exit ?_;refine yd ?_
   refine rS ?_
   refine AWP.block ?_
   generalize hz2:yyd (yxk a0 s1) ((a0.length-((0:Int)).toNat)+1) 0=z2 at hR
   refine AWP.whileW (yxk a0 s1) (fun s2=>⟨[(0,encL 3 eSector a0),(3,.int .i64 (a0.length:Int)),(5,.int .i64 s2)],[]⟩) (fun s2=>0≤s2∧s2≤a0.length) (fun s2=>a0.length-(s2).toNat) ((a0.length-((0:Int)).toNat)+1) 0 [] hz2 m0 wt sm ?_
   clear hz2
   intro s2 k2 hW2 hm2 hz2
   simp only[yxk]at hz2
   refine rS ?_
   refine AWP.cond rfl (fun hb => ?_) (fun hb => ?_)
   ·simp only[hb,cond_true]at hz2
    refine rD 21 ?_
    refine AWP.cond rfl (fun hb => ?_) (fun hb => ?_)
    ·simp only[hb,cond_true]at hz2
     refine rS ?_
     refine AWP.ret ?_
     subst hz2
     dsimp only at hR
     subst hR
     exact es
    ·simp only[hb,cond_false]at hz2
     refine rS ?_
     exact⟨_,[],ms,wt,hz2,sm⟩
   ·simp only[hb,cond_false]at hz2
    refine AWP.exit ?_
    refine yd ?_
    subst hz2;dsimp only at hR
    refine rS ?_
    refine AWP.ret ?_
    subst hR
    exact es
end N153
def D_zub : DF
 | [x0]=>some (.bool (zub (rdL yn x0)),false,[wL 3 eSector yn x0])
 | _=>none
theorem yky:OkD Tryz.prog 153 D_zub:=by unfold D_zub;exact dk N153.den
end Go.Ab

namespace Go.Ab
open Go Go.Proofs
def y3o (a0:(List Sector)) (i1:Nat) (s1:List UInt8) (i2:Nat) (s2:List UInt8):Except (Sum ((List UInt8)) (List UInt8)) (List UInt8):=
 (bif (((a0.getD i2 default).Color) == ([[87],[82],[71],[89]].getD i1 default))then .error (.inr (s2++([[87],[82],[71],[89]].getD i1 default)))else .ok s2)
def yel (a0:(List Sector)) (i1:Nat) (s1:List UInt8):Except ((List UInt8)) (List UInt8):=
 (match yh (y3o a0 i1 s1) (a0.length-0) 0 s1 with|.error (.inl e)=>.error e|.error (.inr s2)=>.ok s2|.ok s2=>.ok s2)
def zfc (a0:(List Sector)):(List UInt8):=
 (match yh (yel a0) (4-0) 0 []with|.error e=>e|.ok s1=>s1)
namespace N154
theorem DD:DOk Tryz.prog (Go.Ab.DD []):=ye _
theorem o0 {p:Prop} (h:p:=by(first|(have h4:=hq4 i1;have h1:=hW1;have h2:=hW2;and_intros<;>omega));first|done|fail):p:=h
theorem lx {p:Prop} (h:p:=by(exact lxx);first|done|fail):p:=h
theorem den (a0:(List Sector)) (hb0:a0.length<1099511627776) (hb1:∀ v∈a0,bdSector v):Den Tryz.prog 154 [encL 3 eSector a0] (.str (zfc a0)):=by
 generalize hR:zfc a0=r
 unfold zfc at hR
 refine di Tryz.func154 Tryz.ntmps154 Tryz.results154 ?_
 intro c hL hc hk
 obtain⟨hL0,_⟩:=hL
 have hw0:a0.length<9223372036854775808:=Nat.lt_succ_of_le (yb hL0).1
 have hw1:∀ v∈a0,bwSector v:=fun v hv=>yr v ((yb hL0).2 v hv)
 clear hL0
 simp only[pars,Nat.zero_add]
 have hq4:∀ i:Nat,(([[87],[82],[71],[89]]:List (List UInt8)).getD i default).length≤1:=fun i=>by rcases i with _|_|_|_|i<;>first|exact Nat.le_refl _|exact Nat.zero_le _
 iterate 4 refine rS ?_
 refine AWP.block ?_
 generalize hz1:yh (yel a0) (4-0) 0 []=z1 at hR
 refine AWP.range (yel a0) (fun i1 s1=>⟨[(0,encL 3 eSector a0),(3,.str s1),(4,.ref 0 1 0 4),(5,.int .i64 (i1:Int))],[.arr 9 1 [[87],[82],[71],[89]].length (fun j=>eS ([[87],[82],[71],[89]].getD j default))]⟩) (fun i1 s1=>s1.length≤i1) (4) 0 [] [0] hz1 ot (by(simp)) sm ?_
 clear hz1
 intro i1 s1 hi1 hW1 hz1
 refine rS ?_
 refine AWP.cond rfl (fun hb => ?_) (fun hb => ?_)
 ·have hlt1:i1<4:=ot
  rw[yj hlt1]at hz1;simp only[yel]at hz1
  refine rS ?_
  refine AWP.block ?_
  generalize hz2:yh (y3o a0 i1 s1) (a0.length-0) 0 s1=z2 at hz1
  refine AWP.range (y3o a0 i1 s1) (fun i2 s2=>⟨[(0,encL 3 eSector a0),(3,.str s2),(4,.ref 0 1 0 4),(5,.int .i64 (i1:Int)),(6,.int .i64 (i2:Int))],[.arr 9 1 [[87],[82],[71],[89]].length (fun j=>eS ([[87],[82],[71],[89]].getD j default))]⟩) (fun i2 s2=>s2.length≤i1) (a0.length) 0 s1 [0] hz2 ot (by(exact hW1)) sm ?_
  clear hz2
  intro i2 s2 hi2 hW2 hz2
  refine rS ?_
  refine AWP.cond rfl (fun hb => ?_) (fun hb => ?_)
  ·have hlt2:i2<a0.length:=ot
   rw[yj hlt2]at hz2;simp only[y3o]at hz2
   refine rD 9 ?_
   refine AWP.cond rfl (fun hb => ?_) (fun hb => ?_)
   ·simp only[hb,cond_true]at hz2
    refine rS ?_
    refine AWP.exit ?_
    refine yjo rfl ?_
    refine yd ?_
    subst hz2;dsimp only at hz1
    refine rS ?_
    exact⟨_,[0],hlt1,by(have h4:=hq4 i1;simp only[ln]at *;omega),hz1,sm⟩
   ·simp only[hb,cond_false]at hz2
    refine rS ?_
    exact⟨_,[0],hlt2,by(first|exact hW2|assumption),hz2,sm⟩
  ·obtain rfl:i2=a0.length:=ot
   rw[yi (Nat.le_refl _)]at hz2;subst hz2;dsimp only at hz1
   refine AWP.exit ?_;refine yd ?_
   refine rS ?_
   exact⟨_,[0],hlt1,by(have h4:=hq4 i1;simp only[ln]at *;omega),hz1,sm⟩
 ·obtain rfl:i1=4:=ot
  rw[yi (Nat.le_refl _)]at hz1;subst hz1;dsimp only at hR
  refine AWP.exit ?_;refine yd ?_
  refine rS ?_
  refine AWP.ret ?_
  subst hR
  exact es
end N154
def D_zfc : DF
 | [x0]=>some (.str (zfc (rdL yn x0)),false,[wL 3 eSector yn x0,(rdL yn x0).length<1099511627776,∀ v∈(rdL yn x0),bdSector v])
 | _=>none
theorem yj1:OkD Tryz.prog 154 D_zfc:=by unfold D_zfc;exact dk N154.den
end Go.Ab

namespace Go.Ab
open Go Go.Proofs
def znd (a0:Int):Bool:=
 (zd a0 1 9)
namespace N220
theorem DD:DOk Tryz.prog (Go.Ab.DD [(137,dP D_zd)]):=ya y9d.e <| ye _
theorem dn:type_of% (@D_zd.eq_1):=by and_intros<;>intros<;>rfl
theorem ol:type_of% (@zd.eq_1):=@zd.eq_1
theorem den (a0:Int)  : Den Tryz.prog 220 [.int .i64 a0] (.bool (znd a0)):=by
 generalize hR:znd a0=r
 unfold znd at hR
 refine di Tryz.func220 Tryz.ntmps220 Tryz.results220 ?_
 intro c hL hc hk
 clear hL
 simp only[pars,Nat.zero_add]
 iterate 2 refine rS ?_
 refine AWP.ret ?_
 subst hR
 exact es
end N220
def D_znd : DF
 | [x0]=>some (.bool (znd (rdI x0)),false,[wI .i64 x0])
 | _=>none
theorem ynz:OkD Tryz.prog 220 D_znd:=by unfold D_znd;exact dk N220.den
end Go.Ab

namespace Go.Ab
open Go Go.Proofs
def zvf (a0:Int):(List UInt8):=
 (([[],[82],[71],[66,89],[66,89,66],[89,66],[89,66,89],[66,82,66],[82,87],[89]]:List (List UInt8)).getD ((a0).toNat) default)
namespace N221
theorem DD:DOk Tryz.prog (Go.Ab.DD []):=ye _
theorem lx {p:Prop} (h:p:=by(exact lxx);first|done|fail):p:=h
theorem den (a0:Int) (hp0:0≤a0) (hp1:a0≤9):Den Tryz.prog 221 [.int .i64 a0] (.str (zvf a0)):=by
 generalize hR:zvf a0=r
 unfold zvf at hR
 refine di Tryz.func221 Tryz.ntmps221 Tryz.results221 ?_
 intro c hL hc hk
 clear hL
 simp only[pars,Nat.zero_add]
 iterate 2 refine rS ?_
 refine AWP.ret ?_
 subst hR
 exact es
end N221
def D_zvf : DF
 | [x0]=>some (.str (zvf (rdI x0)),false,[wI .i64 x0,0≤(rdI x0),(rdI x0)≤9])
 | _=>none
theorem y0x:OkD Tryz.prog 221 D_zvf:=by unfold D_zvf;exact dk N221.den
end Go.Ab
