/- A part of a proof: walks of functions and lemmas of our own. No conditions. -/
import Derived.Test.YtijmcongeemehaaGreatDoorEAl
import Derived.Test.YtijmcongeemehaaGreatDoorEAo
set_option linter.unusedSectionVars false
set_option linter.unusedVariables false
set_option linter.unusedSimpArgs false
set_option maxHeartbeats 1000000
namespace Go.Ab
open Go Go.Proofs
def y2k (a0:(List UInt8)) (a1:Int) (i1:Nat) (s1:Int) (i2:Nat) (s2:Int):Except (Int) (Int):=
 (bif decide (65535<(IntKind.wrap .i64 (s2 * 2 ^ (Min.min 1 (IntKind.bits .i64)))))then .ok (IntKind.wrap .i64 (BitVec.ofInt (IntKind.bits .i64) (IntKind.wrap .i64 (BitVec.ofInt (IntKind.bits .i64) (IntKind.wrap .i64 (s2 * 2 ^ (Min.min 1 (IntKind.bits .i64)))) &&& BitVec.ofInt (IntKind.bits .i64) 65535).toNat) ^^^ BitVec.ofInt (IntKind.bits .i64) 4129).toNat)else .ok (IntKind.wrap .i64 (s2 * 2 ^ (Min.min 1 (IntKind.bits .i64)))))
def ymn (a0:(List UInt8)) (a1:Int) (i1:Nat) (s1:Int):Except (Int) (Int):=
 (match yd (y2k a0 a1 i1 s1) (8-0) 0 (IntKind.wrap .i64 (BitVec.ofInt (IntKind.bits .i64) s1 ^^^ BitVec.ofInt (IntKind.bits .i64) (IntKind.wrap .i64 ((IntKind.wrap .i64 ((a0.getD i1 0).toNat:Int)) * 2 ^ (Min.min 8 (IntKind.bits .i64))))).toNat)with|.error e=>.error e|.ok s2=>.ok s2)
def zlb (a0:(List UInt8)) (a1:Int):Int:=
 (match yd (ymn a0 a1) (a0.length-0) 0 a1 with|.error e=>e|.ok s1=>s1)
namespace N92
theorem DD:DOk Tryz.prog (Go.Ab.DD []):=ye _
theorem den (a0:(List UInt8)) (a1:Int)  : Den Tryz.prog 92 [.str a0,.int .i64 a1] (.int .i64 (zlb a0 a1)):=by
 generalize hR:zlb a0 a1=r;unfold zlb at hR;refine di Tryz.func92 Tryz.ntmps92 Tryz.results92 ?_;intro c hL hc hk;obtain⟨hL0,hL1,_⟩:=hL;have hw0:a0.length<9223372036854775808:=Nat.lt_succ_of_le hL0;clear hL0 hL1;simp only[pars,Nat.zero_add];iterate 2 refine rS ?_
 refine AWP.block ?_;generalize hz1:yd (ymn a0 a1) (a0.length-0) 0 a1=z1 at hR;refine AWP.range (ymn a0 a1) (fun i1 s1=>⟨[(0,.str a0),(1,.int .i64 s1),(5,.int .i64 (i1:Int))],[]⟩) (fun i1 s1=>True) (a0.length) 0 a1 [] hz1 ot wt sm ?_;clear hz1;intro i1 s1 hi1 hW1 hz1;refine rS ?_;refine AWP.cond rfl (fun hb => ?_) (fun hb => ?_)
 ·have hlt1:i1<a0.length:=ot
  rw[yg hlt1]at hz1;simp only[ymn]at hz1;iterate 2 refine rS ?_
  refine AWP.block ?_;generalize hz2:yd (y2k a0 a1 i1 s1) (8-0) 0 (IntKind.wrap .i64 (BitVec.ofInt (IntKind.bits .i64) s1 ^^^ BitVec.ofInt (IntKind.bits .i64) (IntKind.wrap .i64 ((IntKind.wrap .i64 ((a0.getD i1 0).toNat:Int)) * 2 ^ (Min.min 8 (IntKind.bits .i64))))).toNat)=z2 at hz1;refine AWP.range (y2k a0 a1 i1 s1) (fun i2 s2=>⟨[(0,.str a0),(1,.int .i64 s2),(5,.int .i64 (i1:Int)),(6,.int .i64 (i2:Int))],[]⟩) (fun i2 s2=>True) (8) 0 (IntKind.wrap .i64 (BitVec.ofInt (IntKind.bits .i64) s1 ^^^ BitVec.ofInt (IntKind.bits .i64) (IntKind.wrap .i64 ((IntKind.wrap .i64 ((a0.getD i1 0).toNat:Int)) * 2 ^ (Min.min 8 (IntKind.bits .i64))))).toNat) [] hz2 ot wt sm ?_;clear hz2;intro i2 s2 hi2 hW2 hz2;refine rS ?_;refine AWP.cond rfl (fun hb => ?_) (fun hb => ?_)
  ·have hlt2:i2<8:=ot
   rw[yg hlt2]at hz2;simp only[y2k]at hz2;iterate 2 refine rS ?_
   refine AWP.cond rfl (fun hb => ?_) (fun hb => ?_)
   ·simp only[hb,cond_true]at hz2
    iterate 2 refine rS ?_
    exact⟨_,[],hlt2,wt,hz2,sm⟩
   ·simp only[hb,cond_false]at hz2
    refine rS ?_;exact⟨_,[],hlt2,wt,hz2,sm⟩
  ·obtain rfl:i2=8:=ot
   rw[yh (Nat.le_refl _)]at hz2;subst hz2;dsimp only at hz1;refine AWP.exit ?_;refine yb ?_;refine rS ?_;exact⟨_,[],hlt1,wt,hz1,sm⟩
 ·obtain rfl:i1=a0.length:=ot
  rw[yh (Nat.le_refl _)]at hz1;subst hz1;dsimp only at hR;refine AWP.exit ?_;refine yb ?_;refine rS ?_;refine AWP.ret ?_;subst hR;exact es
end N92
def D_zlb : DF
 | [x0,x1]=>some (.int .i64 (zlb (rdS x0) (rdI x1)),false,[wS x0,wI .i64 x1])
 | _=>none
theorem yc1:OkD Tryz.prog 92 D_zlb:=by unfold D_zlb;exact dk N92.den
def zre (a0:Int):Bool:=
 (decide (48<=a0) && decide (a0<=57))
namespace N171
theorem DD:DOk Tryz.prog (Go.Ab.DD []):=ye _
theorem den (a0:Int)  : Den Tryz.prog 171 [.int .u8 a0] (.bool (zre a0)):=by
 generalize hR:zre a0=r;unfold zre at hR;refine di Tryz.func171 Tryz.ntmps171 Tryz.results171 ?_;intro c hL hc hk;clear hL;simp only[pars,Nat.zero_add];iterate 2 refine rS ?_
 refine AWP.ret ?_;subst hR;exact es
end N171
def D_zre : DF
 | [x0]=>some (.bool (zre (rdI x0)),false,[wI .u8 x0])
 | _=>none
theorem y8v:OkD Tryz.prog 171 D_zre:=by unfold D_zre;exact dk N171.den
def zse (a0:Int):Bool:=
 (decide (97<=a0) && decide (a0<=122))
namespace N199
theorem DD:DOk Tryz.prog (Go.Ab.DD []):=ye _
theorem den (a0:Int)  : Den Tryz.prog 199 [.int .u8 a0] (.bool (zse a0)):=by
 generalize hR:zse a0=r;unfold zse at hR;refine di Tryz.func199 Tryz.ntmps199 Tryz.results199 ?_;intro c hL hc hk;clear hL;simp only[pars,Nat.zero_add];iterate 2 refine rS ?_
 refine AWP.ret ?_;subst hR;exact es
end N199
def D_zse : DF
 | [x0]=>some (.bool (zse (rdI x0)),false,[wI .u8 x0])
 | _=>none
theorem yy2:OkD Tryz.prog 199 D_zse:=by unfold D_zse;exact dk N199.den
def y8t (a0:(List UInt8)) (i1:Nat) (s1:Unit):Except (Bool) (Unit):=
 (bif ((!(zse ((a0.getD i1 0).toNat:Int))) && (!(zre ((a0.getD i1 0).toNat:Int))))then .error false else .ok ())
def zpc (a0:(List UInt8)):Bool:=
 (bif (((a0 == []) || decide (10<(a0.length:Int))) || (!(zse ((a0.getD 0 0).toNat:Int))))then false else(match yd (y8t a0) (a0.length-0) 0 ()with|.error e=>e|.ok s1=>true))
namespace N118
theorem DD:DOk Tryz.prog (Go.Ab.DD [(171,dP D_zre),(199,dP D_zse)]):=ya y8v.e <| ya yy2.e <| ye _
theorem dn:type_of% (And.intro @D_zre.eq_1 <| @D_zse.eq_1):=by and_intros<;>intros<;>rfl
theorem den (a0:(List UInt8))  : Den Tryz.prog 118 [.str a0] (.bool (zpc a0)):=by
 generalize hR:zpc a0=r;unfold zpc at hR;refine di Tryz.func118 Tryz.ntmps118 Tryz.results118 ?_;intro c hL hc hk;obtain⟨hL0,_⟩:=hL;have hw0:a0.length<9223372036854775808:=Nat.lt_succ_of_le hL0;clear hL0;simp only[pars,Nat.zero_add];iterate 2 refine rS ?_
 refine AWP.cond rfl (fun hb => ?_) (fun hb => ?_)
 ·replace hR:=ct hR
  refine rS ?_;refine AWP.ret ?_;subst hR;exact es
 ·replace hR:=cf hR
  refine rS ?_;refine AWP.block ?_;generalize hz1:yd (y8t a0) (a0.length-0) 0 ()=z1 at hR;refine AWP.range (y8t a0) (fun i1 s1=>⟨[(0,.str a0),(3,.int .i64 (i1:Int))],[]⟩) (fun i1 s1=>True) (a0.length) 0 () [] hz1 ot wt sm ?_;clear hz1;intro i1 s1 hi1 hW1 hz1;refine rS ?_;refine AWP.cond rfl (fun hb => ?_) (fun hb => ?_)
  ·have hlt1:i1<a0.length:=ot
   rw[yg hlt1]at hz1;simp only[y8t]at hz1;refine rS ?_;refine AWP.cond rfl (fun hb => ?_) (fun hb => ?_)
   ·simp only[hb,cond_true]at hz1
    refine rS ?_;refine AWP.ret ?_;subst hz1;dsimp only at hR;subst hR;exact es
   ·simp only[hb,cond_false]at hz1
    refine rS ?_;exact⟨_,[],hlt1,wt,hz1,sm⟩
  ·obtain rfl:i1=a0.length:=ot
   rw[yh (Nat.le_refl _)]at hz1;subst hz1;dsimp only at hR;refine AWP.exit ?_;refine yb ?_;refine rS ?_;refine AWP.ret ?_;subst hR;exact es
end N118
def D_zpc : DF
 | [x0]=>some (.bool (zpc (rdS x0)),false,[wS x0])
 | _=>none
theorem yt4:OkD Tryz.prog 118 D_zpc:=by unfold D_zpc;exact dk N118.den
def ywq (a0:(List Int)) (i1:Nat) (s1:Int):Except (Int) (Int):=
 .ok (IntKind.wrap .i64 (s1+(a0.getD i1 default)))
def zle (a0:(List Int)):Int:=
 (bif ((a0.length:Int) == 0)then 1 else(match yd (ywq a0) (a0.length-0) 0 0 with|.error e=>e|.ok s1=>s1))
namespace N285
theorem DD:DOk Tryz.prog (Go.Ab.DD []):=ye _
theorem den (a0:(List Int))  : Den Tryz.prog 285 [encL 1 yt a0] (.int .i64 (zle a0)):=by
 generalize hR:zle a0=r;unfold zle at hR;refine di Tryz.func285 Tryz.ntmps285 Tryz.results285 ?_;intro c hL hc hk;obtain⟨hL0,_⟩:=hL;have hw0:a0.length<9223372036854775808:=Nat.lt_succ_of_le (yj hL0).1;clear hL0;simp only[pars,Nat.zero_add];iterate 2 refine rS ?_
 refine AWP.cond rfl (fun hb => ?_) (fun hb => ?_)
 ·replace hR:=ct hR
  refine rS ?_;refine AWP.ret ?_;subst hR;exact es
 ·replace hR:=cf hR
  iterate 2 refine rS ?_
  refine AWP.block ?_;generalize hz1:yd (ywq a0) (a0.length-0) 0 0=z1 at hR;refine AWP.range (ywq a0) (fun i1 s1=>⟨[(0,encL 1 yt a0),(3,.int .i64 s1),(4,.int .i64 (i1:Int))],[]⟩) (fun i1 s1=>True) (a0.length) 0 0 [] hz1 ot wt sm ?_;clear hz1;intro i1 s1 hi1 hW1 hz1;refine rS ?_;refine AWP.cond rfl (fun hb => ?_) (fun hb => ?_)
  ·have hlt1:i1<a0.length:=ot
   rw[yg hlt1]at hz1;simp only[ywq]at hz1;iterate 2 refine rS ?_
   exact⟨_,[],hlt1,wt,hz1,sm⟩
  ·obtain rfl:i1=a0.length:=ot
   rw[yh (Nat.le_refl _)]at hz1;subst hz1;dsimp only at hR;refine AWP.exit ?_;refine yb ?_;refine rS ?_;refine AWP.ret ?_;subst hR;exact es
end N285
def D_zle : DF
 | [x0]=>some (.int .i64 (zle (rdL y5b x0)),false,[wL 1 yt y5b x0])
 | _=>none
theorem yb4:OkD Tryz.prog 285 D_zle:=by unfold D_zle;exact dk N285.den
def zi (a0:Int) (a1:Int) (a2:Int):Bool:=
 (decide (a1<=a0) && decide (a0<=a2))
namespace N95
theorem DD:DOk Tryz.prog (Go.Ab.DD []):=ye _
theorem den (a0:Int) (a1:Int) (a2:Int)  : Den Tryz.prog 95 [.int .i64 a0,.int .i64 a1,.int .i64 a2] (.bool (zi a0 a1 a2)):=by
 generalize hR:zi a0 a1 a2=r;unfold zi at hR;refine di Tryz.func95 Tryz.ntmps95 Tryz.results95 ?_;intro c hL hc hk;clear hL;simp only[pars,Nat.zero_add];iterate 2 refine rS ?_
 refine AWP.ret ?_;subst hR;exact es
end N95
def D_zi : DF
 | [x0,x1,x2]=>some (.bool (zi (rdI x0) (rdI x1) (rdI x2)),false,[wI .i64 x0,wI .i64 x1,wI .i64 x2])
 | _=>none
theorem yce:OkD Tryz.prog 95 D_zi:=by unfold D_zi;exact dk N95.den
def y7r (a0:(List Int)) (i1:Nat) (s1:Unit):Except (Bool) (Unit):=
 (bif (!(zi (a0.getD i1 default) 1 9))then .error false else .ok ())
def zkd (a0:(List Int)):Bool:=
 (match yd (y7r a0) (a0.length-0) 0 ()with|.error e=>e|.ok s1=>((decide ((a0.length:Int)<=4) && (!(((a0.length:Int) == 1) && ((a0.getD 0 default) == 1)))) && decide ((zle a0)<=12)))
namespace N233
theorem DD:DOk Tryz.prog (Go.Ab.DD [(285,dP D_zle),(95,dP D_zi)]):=ya yb4.e <| ya yce.e <| ye _
theorem dn:type_of% (And.intro @D_zle.eq_1 <| @D_zi.eq_1):=by and_intros<;>intros<;>rfl
theorem ol:type_of% (@zi.eq_1):=@zi.eq_1
theorem den (a0:(List Int))  : Den Tryz.prog 233 [encL 1 yt a0] (.bool (zkd a0)):=by
 generalize hR:zkd a0=r;unfold zkd at hR;refine di Tryz.func233 Tryz.ntmps233 Tryz.results233 ?_;intro c hL hc hk;obtain⟨hL0,_⟩:=hL;have hw0:a0.length<9223372036854775808:=Nat.lt_succ_of_le (yj hL0).1;clear hL0;simp only[pars,Nat.zero_add];iterate 2 refine rS ?_
 refine AWP.block ?_;generalize hz1:yd (y7r a0) (a0.length-0) 0 ()=z1 at hR;refine AWP.range (y7r a0) (fun i1 s1=>⟨[(0,encL 1 yt a0),(3,.int .i64 (i1:Int))],[]⟩) (fun i1 s1=>True) (a0.length) 0 () [] hz1 ot wt sm ?_;clear hz1;intro i1 s1 hi1 hW1 hz1;refine rS ?_;refine AWP.cond rfl (fun hb => ?_) (fun hb => ?_)
 ·have hlt1:i1<a0.length:=ot
  rw[yg hlt1]at hz1;simp only[y7r]at hz1;refine rS ?_;refine AWP.cond rfl (fun hb => ?_) (fun hb => ?_)
  ·simp only[hb,cond_true]at hz1
   refine rS ?_;refine AWP.ret ?_;subst hz1;dsimp only at hR;subst hR;exact es
  ·simp only[hb,cond_false]at hz1
   refine rS ?_;exact⟨_,[],hlt1,wt,hz1,sm⟩
 ·obtain rfl:i1=a0.length:=ot
  rw[yh (Nat.le_refl _)]at hz1;subst hz1;dsimp only at hR;refine AWP.exit ?_;refine yb ?_;refine rS ?_;refine AWP.ret ?_;subst hR;exact es
end N233
def D_zkd : DF
 | [x0]=>some (.bool (zkd (rdL y5b x0)),false,[wL 1 yt y5b x0])
 | _=>none
theorem yv2:OkD Tryz.prog 233 D_zkd:=by unfold D_zkd;exact dk N233.den
def zze (a0:Int):Int:=
 (bif (a0 == 87)then 1 else(bif (a0 == 82)then 2 else(bif (a0 == 71)then 3 else(bif (a0 == 89)then 4 else 0))))
namespace N308
theorem DD:DOk Tryz.prog (Go.Ab.DD []):=ye _
theorem den (a0:Int)  : Den Tryz.prog 308 [.int .u8 a0] (.int .i64 (zze a0)):=by
 generalize hR:zze a0=r;unfold zze at hR;refine di Tryz.func308 Tryz.ntmps308 Tryz.results308 ?_;intro c hL hc hk;clear hL;simp only[pars,Nat.zero_add];iterate 3 refine rS ?_
 refine AWP.cond rfl (fun hb => ?_) (fun hb => ?_)
 ·replace hR:=ct hR
  refine rS ?_;refine AWP.ret ?_;subst hR;exact es
 ·replace hR:=cf hR
  refine rS ?_;refine AWP.cond rfl (fun hb => ?_) (fun hb => ?_)
  ·replace hR:=ct hR
   refine rS ?_;refine AWP.ret ?_;subst hR;exact es
  ·replace hR:=cf hR
   refine rS ?_;refine AWP.cond rfl (fun hb => ?_) (fun hb => ?_)
   ·replace hR:=ct hR
    refine rS ?_;refine AWP.ret ?_;subst hR;exact es
   ·replace hR:=cf hR
    refine rS ?_;refine AWP.cond rfl (fun hb => ?_) (fun hb => ?_)
    ·replace hR:=ct hR
     refine rS ?_;refine AWP.ret ?_;subst hR;exact es
    ·replace hR:=cf hR
     refine rS ?_;refine AWP.ret ?_;subst hR;exact es
end N308
def D_zze : DF
 | [x0]=>some (.int .i64 (zze (rdI x0)),false,[wI .u8 x0])
 | _=>none
theorem ys0:OkD Tryz.prog 308 D_zze:=by unfold D_zze;exact dk N308.den
def y4h (a0:(List UInt8)) (i1:Nat) (s1:Unit):Except (Bool) (Unit):=
 (bif (((zze ((a0.getD i1 0).toNat:Int)) == 0) || (decide (0<(i1:Int)) && decide ((zze ((a0.getD i1 0).toNat:Int))<=(zze ((a0.getD ((IntKind.wrap .i64 ((i1:Int)-1)).toNat) 0).toNat:Int)))))then .error false else .ok ())
def zhc (a0:(List UInt8)):Bool:=
 (match yd (y4h a0) (a0.length-0) 0 ()with|.error e=>e|.ok s1=>(decide (1<=(a0.length:Int)) && decide ((a0.length:Int)<=3)))
namespace N258
theorem DD:DOk Tryz.prog (Go.Ab.DD [(308,dP D_zze)]):=ya ys0.e <| ye _
theorem dn:type_of% (@D_zze.eq_1):=by and_intros<;>intros<;>rfl
theorem den (a0:(List UInt8))  : Den Tryz.prog 258 [.str a0] (.bool (zhc a0)):=by
 generalize hR:zhc a0=r;unfold zhc at hR;refine di Tryz.func258 Tryz.ntmps258 Tryz.results258 ?_;intro c hL hc hk;obtain⟨hL0,_⟩:=hL;have hw0:a0.length<9223372036854775808:=Nat.lt_succ_of_le hL0;clear hL0;simp only[pars,Nat.zero_add];iterate 2 refine rS ?_
 refine AWP.block ?_;generalize hz1:yd (y4h a0) (a0.length-0) 0 ()=z1 at hR;refine AWP.range (y4h a0) (fun i1 s1=>⟨[(0,.str a0),(3,.int .i64 (i1:Int))],[]⟩) (fun i1 s1=>True) (a0.length) 0 () [] hz1 ot wt sm ?_;clear hz1;intro i1 s1 hi1 hW1 hz1;refine rS ?_;refine AWP.cond rfl (fun hb => ?_) (fun hb => ?_)
 ·have hlt1:i1<a0.length:=ot
  rw[yg hlt1]at hz1;simp only[y4h]at hz1;refine rD 21 ?_;refine AWP.cond rfl (fun hb => ?_) (fun hb => ?_)
  ·simp only[hb,cond_true]at hz1
   refine rS ?_;refine AWP.ret ?_;subst hz1;dsimp only at hR;subst hR;exact es
  ·simp only[hb,cond_false]at hz1
   refine rS ?_;exact⟨_,[],hlt1,wt,hz1,sm⟩
 ·obtain rfl:i1=a0.length:=ot
  rw[yh (Nat.le_refl _)]at hz1;subst hz1;dsimp only at hR;refine AWP.exit ?_;refine yb ?_;refine rS ?_;refine AWP.ret ?_;subst hR;exact es
end N258
def D_zhc : DF
 | [x0]=>some (.bool (zhc (rdS x0)),false,[wS x0])
 | _=>none
theorem ya2:OkD Tryz.prog 258 D_zhc:=by unfold D_zhc;exact dk N258.den
def zmg (a0:Int):Bool:=
 (zi a0 1 8)
namespace N257
theorem DD:DOk Tryz.prog (Go.Ab.DD [(95,dP D_zi)]):=ya yce.e <| ye _
theorem dn:type_of% (@D_zi.eq_1):=by and_intros<;>intros<;>rfl
theorem ol:type_of% (@zi.eq_1):=@zi.eq_1
theorem den (a0:Int)  : Den Tryz.prog 257 [.int .i64 a0] (.bool (zmg a0)):=by
 generalize hR:zmg a0=r;unfold zmg at hR;refine di Tryz.func257 Tryz.ntmps257 Tryz.results257 ?_;intro c hL hc hk;clear hL;simp only[pars,Nat.zero_add];iterate 2 refine rS ?_
 refine AWP.ret ?_;subst hR;exact es
end N257
def D_zmg : DF
 | [x0]=>some (.bool (zmg (rdI x0)),false,[wI .i64 x0])
 | _=>none
theorem y92:OkD Tryz.prog 257 D_zmg:=by unfold D_zmg;exact dk N257.den
def zte (a0:Character):Bool:=
 (bif ((!(zmg a0.Kind)) || (!(zhc a0.Colors)))then false else(bif (a0.Kind == 1)then(((a0.Group.length:Int) == 0) && (a0.Letter == []))else(bif (a0.Kind == 3)then(((a0.Group.length:Int) == 0) && (a0.Letter == []))else(bif (a0.Kind == 6)then(bif (a0.Letter == [76])then(((a0.Group.length:Int) == 1) && ((a0.Group.getD 0 default) == 6))else(((a0.Letter == []) && decide ((a0.Group.length:Int)<=1)) && (zkd a0.Group)))else(bif (a0.Kind == 7)then(bif (a0.Letter == [76])then(((a0.Group.length:Int) == 1) && ((a0.Group.getD 0 default) == 6))else(((a0.Letter == []) && decide ((a0.Group.length:Int)<=1)) && (zkd a0.Group)))else(bif (a0.Kind == 8)then(((((a0.Group.length:Int) == 0) && ((a0.Letter.length:Int) == 1)) && decide (65<=((a0.Letter.getD 0 0).toNat:Int))) && decide (((a0.Letter.getD 0 0).toNat:Int)<=90))else((a0.Letter == []) && (zkd a0.Group))))))))
namespace N201
theorem DD:DOk Tryz.prog (Go.Ab.DD [(233,dP D_zkd),(257,dP D_zmg),(258,dP D_zhc)]):=ya yv2.e <| ya y92.e <| ya ya2.e <| ye _
theorem dn:type_of% (And.intro @D_zkd.eq_1 <| And.intro @D_zmg.eq_1 <| @D_zhc.eq_1):=by and_intros<;>intros<;>rfl
theorem den (a0:Character)  : Den Tryz.prog 201 [.ep (yi a0)] (.bool (zte a0)):=by
 generalize hR:zte a0=r;unfold zte at hR;refine di Tryz.func201 Tryz.ntmps201 Tryz.results201 ?_;intro c hL hc hk;obtain⟨hL0,_⟩:=hL;have hw0:bwCharacter a0:=yp a0 hL0;clear hL0;simp only[pars,Nat.zero_add];iterate 2 refine rS ?_
 refine AWP.cond rfl (fun hb => ?_) (fun hb => ?_)
 ·replace hR:=ct hR
  refine rS ?_;refine AWP.ret ?_;subst hR;exact es
 ·replace hR:=cf hR
  iterate 2 refine rS ?_
  refine AWP.cond rfl (fun hb => ?_) (fun hb => ?_)
  ·replace hR:=ct hR
   refine AWP.skip ?_;refine AWP.cond rfl (fun hb => ?_) (fun hb => ?_)
   ·refine rS ?_
    refine AWP.ret ?_;subst hR;exact es
   ·exfalso;simp_all
  ·replace hR:=cf hR
   refine rS ?_;refine AWP.cond rfl (fun hb => ?_) (fun hb => ?_)
   ·replace hR:=ct hR
    refine rS ?_;refine AWP.ret ?_;subst hR;exact es
   ·replace hR:=cf hR
    refine rS ?_;refine AWP.cond rfl (fun hb => ?_) (fun hb => ?_)
    ·replace hR:=ct hR
     refine AWP.skip ?_;refine AWP.cond rfl (fun hb => ?_) (fun hb => ?_)
     ·refine rS ?_
      refine AWP.cond rfl (fun hb => ?_) (fun hb => ?_)
      ·replace hR:=ct hR
       refine rS ?_;refine AWP.ret ?_;subst hR;exact es
      ·replace hR:=cf hR
       refine rS ?_;refine AWP.ret ?_;subst hR;exact es
     ·exfalso;simp_all
    ·replace hR:=cf hR
     refine rS ?_;refine AWP.cond rfl (fun hb => ?_) (fun hb => ?_)
     ·replace hR:=ct hR
      refine rS ?_;refine AWP.cond rfl (fun hb => ?_) (fun hb => ?_)
      ·replace hR:=ct hR
       refine rS ?_;refine AWP.ret ?_;subst hR;exact es
      ·replace hR:=cf hR
       refine rS ?_;refine AWP.ret ?_;subst hR;exact es
     ·replace hR:=cf hR
      refine rS ?_;refine AWP.cond rfl (fun hb => ?_) (fun hb => ?_)
      ·replace hR:=ct hR
       refine rS ?_;refine AWP.ret ?_;subst hR;exact es
      ·replace hR:=cf hR
       refine rS ?_;refine AWP.ret ?_;subst hR;exact es
end N201
def D_zte : DF
 | [x0]=>some (.bool (zte (rdP yc x0)),false,[wP yi yc x0])
 | _=>none
theorem yc4:OkD Tryz.prog 201 D_zte:=by unfold D_zte;exact dk N201.den
def yqm (a0:Int) (i1:Nat) (s1:List Int):Except ((List Int)) (List Int):=
 (bif ((((([[46,45],[45,46,46,46],[45,46,45,46],[45,46,46],[46],[46,46,45,46],[45,45,46],[46,46,46,46],[46,46],[46,45,45,45],[45,46,45],[46,45,46,46],[45,45],[45,46],[45,45,45],[46,45,45,46],[45,45,46,45],[46,45,46],[46,46,46],[45],[46,46,45],[46,46,46,45],[46,45,45],[45,46,46,45],[45,46,45,45],[45,45,46,46]]:List (List UInt8)).getD ((IntKind.wrap .u8 (a0-65)).toNat) default).getD i1 0).toNat:Int) == 46)then .ok (s1++([5]:List Int))else .ok (s1++([15]:List Int)))
def zpb (a0:Int):(List Int):=
 (match yd (yqm a0) (((([[46,45],[45,46,46,46],[45,46,45,46],[45,46,46],[46],[46,46,45,46],[45,45,46],[46,46,46,46],[46,46],[46,45,45,45],[45,46,45],[46,45,46,46],[45,45],[45,46],[45,45,45],[46,45,45,46],[45,45,46,45],[46,45,46],[46,46,46],[45],[46,46,45],[46,46,46,45],[46,45,45],[45,46,46,45],[45,46,45,45],[45,45,46,46]]:List (List UInt8)).getD ((IntKind.wrap .u8 (a0-65)).toNat) default).length)-0) 0 ([]:List Int)with|.error e=>e|.ok s1=>s1)
namespace N309
theorem DD:DOk Tryz.prog (Go.Ab.DD []):=ye _
theorem lx {p:Prop} (h:p:=by(exact lxx);first|done|fail):p:=h
theorem den (a0:Int) (hp0:65<=a0) (hp1:a0<=90):Den Tryz.prog 309 [.int .u8 a0] (ownL 2 1 yt (zpb a0)):=by
 generalize hR:zpb a0=r;unfold zpb at hR;refine di Tryz.func309 Tryz.ntmps309 Tryz.results309 ?_;intro c hL hc hk;clear hL;simp only[pars,Nat.zero_add];have hs9:=ya3 (IntKind.wrap .u8 (a0-65)).toNat;have hw9:IntKind.wrap .u8 (a0-65)=a0-65:=yql _ (by omega) (by omega);iterate 5 refine rS ?_
 refine AWP.block ?_;generalize hz1:yd (yqm a0) (((([[46,45],[45,46,46,46],[45,46,45,46],[45,46,46],[46],[46,46,45,46],[45,45,46],[46,46,46,46],[46,46],[46,45,45,45],[45,46,45],[46,45,46,46],[45,45],[45,46],[45,45,45],[46,45,45,46],[45,45,46,45],[46,45,46],[46,46,46],[45],[46,46,45],[46,46,46,45],[46,45,45],[45,46,46,45],[45,46,45,45],[45,45,46,46]]:List (List UInt8)).getD ((IntKind.wrap .u8 (a0-65)).toNat) default).length)-0) 0 ([]:List Int)=z1 at hR;refine AWP.range (yqm a0) (fun i1 s1=>⟨[(4,.str (([[46,45],[45,46,46,46],[45,46,45,46],[45,46,46],[46],[46,46,45,46],[45,45,46],[46,46,46,46],[46,46],[46,45,45,45],[45,46,45],[46,45,46,46],[45,45],[45,46],[45,45,45],[46,45,45,46],[45,45,46,45],[46,45,46],[46,46,46],[45],[46,46,45],[46,46,46,45],[46,45,45],[45,46,46,45],[45,46,45,45],[45,45,46,46]]:List (List UInt8)).getD ((IntKind.wrap .u8 (a0-65)).toNat) default)),(5,.ref 0 1 0 s1.length),(6,.int .i64 (i1:Int))],[.arr 2 1 s1.length (fun j=>yt (s1.getD j default))]⟩) (fun i1 s1=>s1.length<=([]:List Int).length+1 * i1/\s1.length<=i1) (((([[46,45],[45,46,46,46],[45,46,45,46],[45,46,46],[46],[46,46,45,46],[45,45,46],[46,46,46,46],[46,46],[46,45,45,45],[45,46,45],[46,45,46,46],[45,45],[45,46],[45,45,45],[46,45,45,46],[45,45,46,45],[46,45,46],[46,46,46],[45],[46,46,45],[46,46,46,45],[46,45,45],[45,46,46,45],[45,46,45,45],[45,45,46,46]]:List (List UInt8)).getD ((IntKind.wrap .u8 (a0-65)).toNat) default).length)) 0 ([]:List Int) [1] hz1 ot wt sm ?_;clear hz1;intro i1 s1 hi1 hW1 hz1;refine rS ?_;refine AWP.cond rfl (fun hb => ?_) (fun hb => ?_)
 ·have hlt1:i1<((([[46,45],[45,46,46,46],[45,46,45,46],[45,46,46],[46],[46,46,45,46],[45,45,46],[46,46,46,46],[46,46],[46,45,45,45],[45,46,45],[46,45,46,46],[45,45],[45,46],[45,45,45],[46,45,45,46],[45,45,46,45],[46,45,46],[46,46,46],[45],[46,46,45],[46,46,46,45],[46,45,45],[45,46,46,45],[45,46,45,45],[45,45,46,46]]:List (List UInt8)).getD ((IntKind.wrap .u8 (a0-65)).toNat) default).length):=ot
  rw[yg hlt1]at hz1;simp only[yqm]at hz1;refine rS ?_;refine AWP.cond rfl (fun hb => ?_) (fun hb => ?_)
  ·simp only[hb,cond_true]at hz1
   iterate 2 refine rS ?_
   exact⟨_,[2],hlt1,wt,hz1,sm⟩
  ·simp only[hb,cond_false]at hz1
   iterate 2 refine rS ?_
   exact⟨_,[2],hlt1,wt,hz1,sm⟩
 ·obtain rfl:i1=((([[46,45],[45,46,46,46],[45,46,45,46],[45,46,46],[46],[46,46,45,46],[45,45,46],[46,46,46,46],[46,46],[46,45,45,45],[45,46,45],[46,45,46,46],[45,45],[45,46],[45,45,45],[46,45,45,46],[45,45,46,45],[46,45,46],[46,46,46],[45],[46,46,45],[46,46,46,45],[46,45,45],[45,46,46,45],[45,46,45,45],[45,45,46,46]]:List (List UInt8)).getD ((IntKind.wrap .u8 (a0-65)).toNat) default).length):=ot
  rw[yh (Nat.le_refl _)]at hz1;subst hz1;dsimp only at hR;refine AWP.exit ?_;refine yb ?_;refine rS ?_;refine AWP.ret ?_;subst hR;exact es
end N309
def D_zpb : DF
 | [x0]=>some (ownL 2 1 yt (zpb (rdI x0)),false,[wI .u8 x0,65<=(rdI x0),(rdI x0)<=90])
 | _=>none
theorem yx0:OkD Tryz.prog 309 D_zpb:=by unfold D_zpb;exact dk N309.den
theorem y3g (a:Int):zpb a=(yhd.getD (IntKind.wrap .u8 (a-65)).toNat default).map (fun c=>if c=46 then(5:Int)else 15):=by
 have h:=ybd (yqm a) (fun j=>[if((yhd.getD (IntKind.wrap .u8 (a-65)).toNat default).getD j 0)=46 then(5:Int)else 15]) (yhd.getD (IntKind.wrap .u8 (a-65)).toNat default).length 0 [] (fun j s _ _=>by
  show(bif ((((yhd.getD (IntKind.wrap .u8 (a-65)).toNat default).getD j 0).toNat:Int) == 46)then(.ok (s++[5]):Except (List Int) (List Int))else .ok (s++[15]))=_;generalize (yhd.getD (IntKind.wrap .u8 (a-65)).toNat default).getD j 0=c;by_cases hc:c=46
  ·subst hc;rfl
  ·have:((c.toNat:Int) == 46)=false:=by
    rw[beq_eq_false_iff_ne];intro h;exact hc (UInt8.toNat_inj.1 (by show c.toNat=46;omega))
   rw[this,if_neg hc];rfl)
 have e:zpb a=(match yd (yqm a) (yhd.getD (IntKind.wrap .u8 (a-65)).toNat default).length 0 ([]:List Int)with|.error e=>e|.ok s1=>s1):=rfl;rw[e,h];simp only[List.nil_append];exact ysf _ 0 (fun c=>if c=46 then(5:Int)else 15)
theorem y7p (a:Int):(zpb a).length<=4:=by
 rw[y3g,List.length_map];exact yuk _
def y6y (a0:(List UInt8)) (i1:Nat) (s1:Int):Except ((Int×Bool)) (Int):=
 (bif (!(zre ((a0.getD i1 0).toNat:Int)))then .error (0,false)else .ok (IntKind.wrap .i64 ((IntKind.wrap .i64 (10 * s1))+(IntKind.wrap .i64 (IntKind.wrap .u8 (((a0.getD i1 0).toNat:Int)-48))))))
def ysy (a0:(List UInt8)) (i2:Nat) (s2:Int):Except ((Int×Bool)) (Int):=
 (bif (!(zre ((a0.getD i2 0).toNat:Int)))then .error (0,false)else .ok (IntKind.wrap .i64 ((IntKind.wrap .i64 (10 * s2))+(IntKind.wrap .i64 (IntKind.wrap .u8 (((a0.getD i2 0).toNat:Int)-48))))))
def zf (a0:(List UInt8)):(Int×Bool):=
 (bif (decide (0<(a0.length:Int)) && (((a0.getD 0 0).toNat:Int) == 45))then(bif ((((a0.length:Int) == 1) || decide (18<(IntKind.wrap .i64 ((a0.length:Int)-1)))) || ((((a0.getD 1 0).toNat:Int) == 48) && decide (1<(a0.length:Int))))then(0,false)else(match yd (y6y a0) (a0.length-1) 1 0 with|.error e=>e|.ok s1=>(IntKind.wrap .i64 (0-s1),true)))else(bif ((((a0.length:Int) == 0) || decide (18<(IntKind.wrap .i64 ((a0.length:Int)-0)))) || ((((a0.getD 0 0).toNat:Int) == 48) && decide (1<(a0.length:Int))))then(0,false)else(match yd (ysy a0) (a0.length-0) 0 0 with|.error e=>e|.ok s2=>(s2,true))))
namespace N93
theorem DD:DOk Tryz.prog (Go.Ab.DD [(171,dP D_zre)]):=ya y8v.e <| ye _
theorem dn:type_of% (@D_zre.eq_1):=by and_intros<;>intros<;>rfl
theorem den (a0:(List UInt8)) (hp0:a0.length<=1048576):Den Tryz.prog 93 [.str a0] (.tup [.int .i64 ((zf a0).1),.bool ((zf a0).2)]):=by
 generalize hR:zf a0=r;unfold zf at hR;refine di Tryz.func93 Tryz.ntmps93 Tryz.results93 ?_;intro c hL hc hk;obtain⟨hL0,_⟩:=hL;have hw0:a0.length<9223372036854775808:=Nat.lt_succ_of_le hL0;clear hL0;simp only[pars,Nat.zero_add];iterate 3 refine rS ?_
 refine AWP.cond rfl (fun hb => ?_) (fun hb => ?_)
 ·replace hR:=ct hR
  iterate 2 refine rS ?_
  refine AWP.cond rfl (fun hb => ?_) (fun hb => ?_)
  ·replace hR:=ct hR
   refine rS ?_;refine AWP.ret ?_;subst hR;exact es
  ·replace hR:=cf hR
   iterate 2 refine rS ?_
   refine AWP.block ?_;generalize hz1:yd (y6y a0) (a0.length-1) 1 0=z1 at hR;refine AWP.range (y6y a0) (fun i1 s1=>⟨[(0,.str a0),(4,.int .i64 1),(5,.int .i64 s1),(6,.int .i64 (i1:Int))],[]⟩) (fun i1 s1=>1<=i1) (a0.length) 1 0 [] hz1 ot wt sm ?_;clear hz1;intro i1 s1 hi1 hW1 hz1;refine rS ?_;refine AWP.cond rfl (fun hb => ?_) (fun hb => ?_)
   ·have hlt1:i1<a0.length:=ot
    rw[yg hlt1]at hz1;simp only[y6y]at hz1;refine rS ?_;refine AWP.cond rfl (fun hb => ?_) (fun hb => ?_)
    ·simp only[hb,cond_true]at hz1
     refine rS ?_;refine AWP.ret ?_;subst hz1;dsimp only at hR;subst hR;exact es
    ·simp only[hb,cond_false]at hz1
     iterate 2 refine rS ?_
     exact⟨_,[],hlt1,wt,hz1,sm⟩
   ·obtain rfl:i1=a0.length:=ot
    rw[yh (Nat.le_refl _)]at hz1;subst hz1;dsimp only at hR;refine AWP.exit ?_;refine yb ?_;refine rS ?_;refine AWP.cond rfl (fun hb => ?_) (fun hb => ?_)
    ·refine rS ?_
     refine rS ?_;refine AWP.ret ?_;subst hR;exact es
    ·exfalso;simp at hb
 ·replace hR:=cf hR
  refine rS ?_;refine AWP.cond rfl (fun hb => ?_) (fun hb => ?_)
  ·replace hR:=ct hR
   refine rS ?_;refine AWP.ret ?_;subst hR;exact es
  ·replace hR:=cf hR
   iterate 2 refine rS ?_
   refine AWP.block ?_;generalize hz2:yd (ysy a0) (a0.length-0) 0 0=z2 at hR;refine AWP.range (ysy a0) (fun i2 s2=>⟨[(0,.str a0),(4,.int .i64 0),(5,.int .i64 s2),(6,.int .i64 (i2:Int))],[]⟩) (fun i2 s2=>True) (a0.length) 0 0 [] hz2 ot wt sm ?_;clear hz2;intro i2 s2 hi2 hW2 hz2;refine rS ?_;refine AWP.cond rfl (fun hb => ?_) (fun hb => ?_)
   ·have hlt2:i2<a0.length:=ot
    rw[yg hlt2]at hz2;simp only[ysy]at hz2;refine rS ?_;refine AWP.cond rfl (fun hb => ?_) (fun hb => ?_)
    ·simp only[hb,cond_true]at hz2
     refine rS ?_;refine AWP.ret ?_;subst hz2;dsimp only at hR;subst hR;exact es
    ·simp only[hb,cond_false]at hz2
     iterate 2 refine rS ?_
     exact⟨_,[],hlt2,wt,hz2,sm⟩
   ·obtain rfl:i2=a0.length:=ot
    rw[yh (Nat.le_refl _)]at hz2;subst hz2;dsimp only at hR;refine AWP.exit ?_;refine yb ?_;refine rS ?_;refine AWP.cond rfl (fun hb => ?_) (fun hb => ?_)
    ·exfalso;simp at hb
    ·refine rS ?_
     refine AWP.ret ?_;subst hR;exact es
end N93
def D_zf : DF
 | [x0]=>some (.tup [.int .i64 ((zf (rdS x0)).1),.bool ((zf (rdS x0)).2)],false,[wS x0,(rdS x0).length<=1048576])
 | _=>none
theorem ycm:OkD Tryz.prog 93 D_zf:=by unfold D_zf;exact dk N93.den
def E18:Nat:=1000000000000000000
theorem yxe (m:Nat):Lib.itoa (m:Int)=Lib.decDigits m:=by
 unfold Lib.itoa;rw[if_neg (by omega)];simp
theorem yfe {n:Int} (h:¬ n<0):Lib.itoa n=Lib.decDigits n.natAbs:=by
 unfold Lib.itoa;rw[if_neg h];congr 1;omega
theorem ytb {n:Int} (h:n<0):Lib.itoa n=45::Lib.decDigits n.natAbs:=by
 unfold Lib.itoa;rw[if_pos h]
theorem yg0 (m:Nat):∃ c t,Lib.decDigits m=c::t/\c≠45:=by
 obtain⟨h1,h2,h3,h4⟩:=y6 m;obtain⟨c,t,e⟩:=List.exists_cons_of_ne_nil h3;refine⟨c,t,e,fun h => ?_⟩;have:=h1 c (by rw[e];simp);subst h;simp at this
theorem ylo {n n':Int} (h:Lib.itoa n=Lib.itoa n'):n=n':=by
 have hd:∀ m:Nat,digV 0 (Lib.decDigits m)=m:=fun m=>(y6 m).2.1
 by_cases h1:n<0<;>by_cases h2:n'<0
 ·rw[ytb h1,ytb h2]at h
  have:=congrArg (digV 0) (List.cons.inj h).2;rw[hd,hd]at this;omega
 ·obtain⟨c,t,e,hc⟩:=yg0 n'.toNat
  rw[ytb h1,show n'=(n'.toNat:Int)by omega,yxe,e]at h;exact absurd (List.cons.inj h).1.symm hc
 ·obtain⟨c,t,e,hc⟩:=yg0 n.toNat
  rw[ytb h2,show n=(n.toNat:Int)by omega,yxe,e]at h;exact absurd (List.cons.inj h).1 hc
 ·rw[show n=(n.toNat:Int)by omega,show n'=(n'.toNat:Int)by omega,yxe,yxe]at h
  have:=congrArg (digV 0) h;rw[hd,hd]at this;omega
theorem yqp (n:Int):(Lib.trimPrefix (Lib.itoa n) [45]).length=(Lib.decDigits n.natAbs).length:=by
 by_cases h:n<0
 ·rw[ytb h];simp[Lib.trimPrefix,Lib.hasPrefix]
 ·obtain⟨c,t,e,hc⟩:=yg0 n.toNat
  rw[yfe h];rw[show n.toNat=n.natAbs by omega]at e;unfold Lib.trimPrefix Lib.hasPrefix;rw[if_neg (by rw[e];simp;exact fun h=>hc h.symm)]
theorem ybj (n:Int) (h1:n.natAbs<E18):Lib.parseIntB 64 (Lib.itoa n)=.ok n:=by
 unfold E18 at h1;obtain⟨d1,d2,d3,d4⟩:=y6 n.natAbs
 have hp:Lib.parseUintB 64 (Lib.decDigits n.natAbs)=.ok n.natAbs:=by
  unfold Lib.parseUintB;rw[if_neg d3,yjm _ _ 0 d1 (by rw[d2];omega) (by decide),d2]
 by_cases h:n<0
 ·rw[ytb h,Lib.parseIntB_minus,hp]
  show(if 2 ^ (64-1)<n.natAbs then _ else _)=_;rw[if_neg (by omega)];congr 1;omega
 ·obtain⟨c,t,e,hc⟩:=yg0 n.natAbs
  have e2:=yfe h;have hc1:=d1 c (by rw[e];simp);rw[e2];rw[e]at hp ⊢;rw[Lib.parseIntB_plain 64 c t (by omega) (by omega),hp];show(if 2 ^ (64-1)<=n.natAbs then _ else _)=_;rw[if_neg (by omega)];congr 1;omega
def ypk (w:List UInt8) (r:Int×Bool):Prop:=
 (∃ n:Int,n.natAbs<E18/\w=Lib.itoa n/\r=(n,true))\/((∀ n:Int,n.natAbs<E18->w≠Lib.itoa n)/\r=(0,false))
theorem ypk.unique {w:List UInt8} {r r':Int×Bool} (h:ypk w r) (h':ypk w r'):r=r':=by
 rcases h with⟨n,h1,h2,rfl⟩|⟨h1,rfl⟩<;>rcases h' with⟨n',h1',h2',rfl⟩|⟨h1',rfl⟩
 ·rw[ylo (h2.symm.trans h2')]
 ·exact absurd h2 (h1' n h1)
 ·exact absurd h2' (h1 n' h1')
 ·rfl
theorem yej (w:List UInt8):ypk w (yzb w):=by
 unfold yzb;by_cases h18:18<(Lib.trimPrefix w [45]).length
 ·rw[if_pos h18]
  refine .inr ⟨fun n hn e => ?_,rfl⟩;subst e;rw[yqp]at h18;have:=(ypb n.natAbs).2 hn;omega
 ·rw[if_neg h18]
  cases hp:Lib.parseIntB 64 w with
  | ok v=>
   simp only;by_cases hv:Lib.itoa v=w
   ·rw[if_pos hv]
    refine .inl ⟨v,?_,hv.symm,rfl⟩;subst hv;rw[yqp]at h18;exact(ypb v.natAbs).1 (by omega)
   ·rw[if_neg hv]
    refine .inr ⟨fun n hn e => ?_,rfl⟩;subst e;rw[ybj n hn]at hp;cases hp
    exact hv rfl
  | _ => exact .inr ⟨fun n hn e=>(by subst e;rw[ybj n hn]at hp;cases hp),rfl⟩
theorem wid {n:Int} (h1 : -9223372036854775808<=n) (h2:n<=9223372036854775807):IntKind.wrap .i64 n=n:=by
 rw[IntKind.wrap_i64];omega
theorem yte (a:List UInt8) (b:Nat->Int->Except (Int×Bool) Int) (hb:∀ i s,b i s=(bif (!(decide (48<=((a.getD i 0).toNat:Int)) && decide (((a.getD i 0).toNat:Int)<=57)))then .error (0,false)else .ok (IntKind.wrap .i64 ((IntKind.wrap .i64 (10 * s))+(IntKind.wrap .i64 (IntKind.wrap .u8 (((a.getD i 0).toNat:Int)-48))))))) :
  ∀ (k i n:Nat),i+k=a.length->(n+1) * 10 ^ k<=E18->yd b k i (n:Int)=if yub (a.drop i)then .ok ((digV n (a.drop i):Nat):Int)else .error (0,false)
 | 0,i,n,h,hn=>by
  rw[List.drop_eq_nil_of_le (by omega),y5c,if_pos (by intro b hb;simp at hb)];rfl
 | k+1,i,n,h,hn=>by
  have hlt:i<a.length:=by omega
  have hg:a.getD i 0=a[i]:=by simp[List.getD,List.getElem?_eq_getElem hlt]
  rw[List.drop_eq_getElem_cons hlt,y7];simp only[yd,hb,hg];have h10:(n+1) * 10 ^ (k+1)=((n+1) * 10) * 10 ^ k:=by rw[Nat.pow_succ,Nat.mul_assoc,Nat.mul_comm 10]
  have hone:1<=10 ^ k:=Nat.one_le_pow _ _ (by decide);have hbig:(n+1) * 10 * 1<=(n+1) * 10 * 10 ^ k:=Nat.mul_le_mul_left _ hone;unfold E18 at hn;by_cases hd:48<=a[i].toNat/\a[i].toNat<=57
  ·have e:(!(decide (48<=((a[i]).toNat:Int)) && decide (((a[i]).toNat:Int)<=57)))=false:=by simp;omega
   rw[e,cond_false]
   have hw:IntKind.wrap .i64 ((IntKind.wrap .i64 (10 * (n:Int)))+(IntKind.wrap .i64 (IntKind.wrap .u8 (((a[i]).toNat:Int)-48))))=((10 * n+(a[i].toNat-48):Nat):Int):=by
    rw[wid (n:=10 * (n:Int)) (by omega) (by omega),IntKind.wrap_u8,Int.emod_eq_of_lt (by omega) (by omega),wid (n:=((a[i]).toNat:Int)-48) (by omega) (by omega),wid (by omega) (by omega)];omega
   rw[hw];simp only;have hm:(10 * n+(a[i].toNat-48)+1) * 10 ^ k<=(n+1) * 10 * 10 ^ k:=Nat.mul_le_mul_right _ (by omega);rw[yte a b hb k (i+1) _ (by omega) (by unfold E18;omega)]
   have hiff:yub (a[i]::a.drop (i+1))↔yub (a.drop (i+1)):=⟨fun h b hb=>h b (List.mem_cons_of_mem _ hb),fun h b hb=>by
    rcases List.mem_cons.1 hb with rfl|hb
    ·exact hd
    ·exact h b hb⟩
   by_cases hA:yub (a.drop (i+1))
   ·rw[if_pos hA,if_pos (hiff.2 hA)]
   ·rw[if_neg hA,if_neg (fun h=>hA (hiff.1 h))]
  ·have e:(!(decide (48<=((a[i]).toNat:Int)) && decide (((a[i]).toNat:Int)<=57)))=true:=by
    simp;omega
   rw[e,cond_true];simp only;rw[if_neg (fun h=>hd (h a[i] List.mem_cons_self))]
theorem yl3 {a:List UInt8} (h:0<a.length):a=a.getD 0 0::a.drop 1:=by
 obtain⟨c,t,rfl⟩:=List.exists_cons_of_length_pos h;simp
theorem ywb (w:List UInt8) (hw:w.length<=1048576):ypk w (zf w):=by
 unfold zf;by_cases hneg:0<w.length/\w.getD 0 0=45
 ·have e0:(decide (0<(w.length:Int)) && (((w.getD 0 0).toNat:Int) == 45))=true:=by rw[hneg.2];simp;omega
  rw[e0,cond_true];have hd1:=yl3 hneg.1;rw[hneg.2]at hd1;generalize hr:w.drop 1=r at hd1;have hlen:w.length=r.length+1:=by rw[hd1];simp
  have hg1:w.getD 1 0=r.getD 0 0:=by rw[hd1];simp
  have hno:(∀ m:Nat,m<E18->1<=m->r≠Lib.decDigits m)->∀ n:Int,n.natAbs<E18->w≠Lib.itoa n:=by
   intro h n hn e;by_cases hn0:n<0
   ·rw[ytb hn0,hd1]at e
    exact h n.natAbs hn (by omega) (List.cons.inj e).2
   ·obtain⟨c,t,e3,hc⟩:=yg0 n.natAbs
    rw[yfe hn0,e3,hd1]at e;exact hc (List.cons.inj e).1.symm
  by_cases hbad:r=[]\/18<r.length\/r.getD 0 0=48
  ·have e1:((((w.length:Int) == 1) || decide (18<(IntKind.wrap .i64 ((w.length:Int)-1)))) || ((((w.getD 1 0).toNat:Int) == 48) && decide (1<(w.length:Int))))=true:=by
    rw[IntKind.wrap_i64,hg1,hlen];rcases hbad with h|h|h
    ·subst h;simp
    ·simp;left;right;omega
    ·by_cases hr0:r=[]
     ·subst hr0;simp
     ·have:0<r.length:=List.length_pos_iff.2 hr0
      rw[h];simp;right;omega
   rw[e1,cond_true];refine .inr ⟨hno fun m hm h1 e => ?_,rfl⟩;obtain⟨d1,d2,d3,d4⟩:=y6 m;rcases hbad with h|h|h
   ·rw[h]at e;exact d3 e.symm
   ·rw[e]at h;have:=(ypb m).2 hm;omega
   ·rw[e]at h;exact d4 h1 h
  ·have hb1:r≠[]:=fun h=>hbad (.inl h)
   have hb2:r.length<=18:=by
    by_cases h:r.length<=18
    ·exact h
    ·exact absurd (.inr (.inl (by omega))) hbad
   have hb3:r.getD 0 0≠48:=fun h=>hbad (.inr (.inr h))
   have hrp:0<r.length:=List.length_pos_iff.2 hb1;have hn48:¬ (r.getD 0 0).toNat=48:=fun h=>hb3 (UInt8.toNat_inj.1 (by rw[h];rfl))
   have e1:((((w.length:Int) == 1) || decide (18<(IntKind.wrap .i64 ((w.length:Int)-1)))) || ((((w.getD 1 0).toNat:Int) == 48) && decide (1<(w.length:Int))))=false:=by
    rw[IntKind.wrap_i64,hg1,hlen];simp only[Bool.or_eq_false_iff,Bool.and_eq_false_iff,beq_eq_false_iff_ne,decide_eq_false_iff_not];refine⟨⟨by omega,by omega⟩,.inl (by omega)⟩
   rw[e1,cond_false]
   have hpow:(0+1) * 10 ^ (w.length-1)<=E18:=by
    have:10 ^ (w.length-1)<=10 ^ 18:=Nat.pow_le_pow_right (by decide) (by omega);have h6:(10:Nat) ^ 18=1000000000000000000:=by decide
    unfold E18;omega
   have hL:=yte w (y6y w) (fun i s=>rfl) (w.length-1) 1 0 (by omega) hpow;rw[hr]at hL;rw[show(0:Int)=((0:Nat):Int)from rfl,hL];by_cases hA:yub r
   ·rw[if_pos hA]
    have hlt:=ydt r 0 hA;have hp2:10 ^ r.length<=10 ^ 18:=Nat.pow_le_pow_right (by decide) hb2;have h6:(10:Nat) ^ 18=1000000000000000000:=by decide
    have hdv:=ysl r.length r rfl hA hb1 (.inl hb3)
    have hv1:1<=digV 0 r:=by
     obtain⟨c,t,e⟩:=List.exists_cons_of_ne_nil hb1;have h5:=y4n t (10 * 0+(c.toNat-48));have hc:=hA c (by rw[e];simp);have hcn:c.toNat≠48:=by rw[e]at hn48;simpa using hn48
     have h7:1<=10 ^ t.length:=Nat.one_le_pow _ _ (by decide);have h8:1 * 1<=(10 * 0+(c.toNat-48)) * 10 ^ t.length:=Nat.mul_le_mul (by omega) h7;rw[e,y7];omega
    simp only;have hwr:IntKind.wrap .i64 (((0:Nat):Int)-((digV 0 r:Nat):Int)) = -((digV 0 r:Nat):Int):=by rw[IntKind.wrap_i64];omega
    rw[hwr];refine .inl ⟨-((digV 0 r:Nat):Int),by unfold E18;omega,?_,rfl⟩;rw[ytb (by omega),show(-((digV 0 r:Nat):Int)).natAbs=digV 0 r by omega,hdv];exact hd1
   ·rw[if_neg hA]
    refine .inr ⟨hno fun m hm h1 e=>hA (by rw[e];exact(y6 m).1),rfl⟩
 ·have e0:(decide (0<(w.length:Int)) && (((w.getD 0 0).toNat:Int) == 45))=false:=by
   simp only[Bool.and_eq_false_iff,beq_eq_false_iff_ne,decide_eq_false_iff_not];by_cases h:0<w.length
   ·right
    intro h2;exact hneg ⟨h,UInt8.toNat_inj.1 (by show _=45;omega)⟩
   ·left;omega
  rw[e0,cond_false]
  have hno:(∀ m:Nat,m<E18->w≠Lib.decDigits m)->∀ n:Int,n.natAbs<E18->w≠Lib.itoa n:=by
   intro h n hn e;by_cases hn0:n<0
   ·rw[ytb hn0]at e
    exact hneg ⟨by rw[e];simp,by rw[e];simp⟩
   ·rw[yfe hn0]at e
    exact h n.natAbs hn e
  by_cases hbad:w=[]\/18<w.length\/(w.getD 0 0=48/\1<w.length)
  ·have e1:((((w.length:Int) == 0) || decide (18<(IntKind.wrap .i64 ((w.length:Int)-0)))) || ((((w.getD 0 0).toNat:Int) == 48) && decide (1<(w.length:Int))))=true:=by
    rw[IntKind.wrap_i64];rcases hbad with h|h|h
    ·subst h;simp
    ·simp;left;right;omega
    ·rw[h.1];simp;right;omega
   rw[e1,cond_true];refine .inr ⟨hno fun m hm e => ?_,rfl⟩;obtain⟨d1,d2,d3,d4⟩:=y6 m;rcases hbad with h|h|h
   ·rw[h]at e;exact d3 e.symm
   ·rw[e]at h;have:=(ypb m).2 hm;omega
   ·rw[e]at h
    by_cases hm0:1<=m
    ·exact d4 hm0 h.1
    ·obtain rfl:m=0:=by omega
     rw[Lib.decDigits_one (by decide)]at h;simp at h
  ·have hb1:w≠[]:=fun h=>hbad (.inl h)
   have hb2:w.length<=18:=by
    by_cases h:w.length<=18
    ·exact h
    ·exact absurd (.inr (.inl (by omega))) hbad
   have hrp:0<w.length:=List.length_pos_iff.2 hb1
   have hb3:w.getD 0 0≠48\/w.length=1:=by
    by_cases h:w.getD 0 0=48
    ·right
     by_cases h1:1<w.length
     ·exact absurd (.inr (.inr ⟨h,h1⟩)) hbad
     ·omega
    ·exact .inl h
   have e1:((((w.length:Int) == 0) || decide (18<(IntKind.wrap .i64 ((w.length:Int)-0)))) || ((((w.getD 0 0).toNat:Int) == 48) && decide (1<(w.length:Int))))=false:=by
    rw[IntKind.wrap_i64];simp only[Bool.or_eq_false_iff,Bool.and_eq_false_iff,beq_eq_false_iff_ne,decide_eq_false_iff_not];refine⟨⟨by omega,by omega⟩,?_⟩;rcases hb3 with h|h
    ·left
     intro h2;exact h (UInt8.toNat_inj.1 (by show _=48;omega))
    ·right;omega
   rw[e1,cond_false]
   have hpow:(0+1) * 10 ^ (w.length-0)<=E18:=by
    have:10 ^ (w.length-0)<=10 ^ 18:=Nat.pow_le_pow_right (by decide) (by omega);have h6:(10:Nat) ^ 18=1000000000000000000:=by decide
    unfold E18;omega
   have hL:=yte w (ysy w) (fun i s=>rfl) (w.length-0) 0 0 (by omega) hpow;rw[List.drop_zero]at hL;rw[show(0:Int)=((0:Nat):Int)from rfl,hL];by_cases hA:yub w
   ·rw[if_pos hA]
    have hlt:=ydt w 0 hA;have hp2:10 ^ w.length<=10 ^ 18:=Nat.pow_le_pow_right (by decide) hb2;have h6:(10:Nat) ^ 18=1000000000000000000:=by decide
    have hdv:=ysl w.length w rfl hA hb1 hb3;refine .inl ⟨((digV 0 w:Nat):Int),by unfold E18;omega,?_,rfl⟩;rw[yxe,hdv]
   ·rw[if_neg hA]
    refine .inr ⟨hno fun m hm e=>hA (by rw[e];exact(y6 m).1),rfl⟩
theorem ykq (w:List UInt8) (hw:w.length<=1048576):yzb w=zf w:=(yej w).unique (ywb w hw)
def zef (a0:Character):Bool:=
 ((a0.Kind == 1) || (((a0.Kind == 6) || (a0.Kind == 7)) && ((a0.Group.length:Int) == 0)))
namespace N202
theorem DD:DOk Tryz.prog (Go.Ab.DD []):=ye _
theorem den (a0:Character)  : Den Tryz.prog 202 [.ep (yi a0)] (.bool (zef a0)):=by
 generalize hR:zef a0=r;unfold zef at hR;refine di Tryz.func202 Tryz.ntmps202 Tryz.results202 ?_;intro c hL hc hk;obtain⟨hL0,_⟩:=hL;have hw0:bwCharacter a0:=yp a0 hL0;clear hL0;simp only[pars,Nat.zero_add];iterate 2 refine rS ?_
 refine AWP.ret ?_;subst hR;exact es
end N202
def D_zef : DF
 | [x0]=>some (.bool (zef (rdP yc x0)),false,[wP yi yc x0])
 | _=>none
theorem you:OkD Tryz.prog 202 D_zef:=by unfold D_zef;exact dk N202.den
def y9o (a0:(List Int)) (i1:Nat) (s1:Int):Except (Int) (Int):=
 .ok (IntKind.wrap .i64 (s1+(a0.getD i1 default)))
def zzd (a0:(List Int)):Int:=
 (match yd (y9o a0) (a0.length-0) 0 0 with|.error e=>e|.ok s1=>s1)
namespace N259
theorem DD:DOk Tryz.prog (Go.Ab.DD []):=ye _
theorem den (a0:(List Int))  : Den Tryz.prog 259 [encL 1 yt a0] (.int .i64 (zzd a0)):=by
 generalize hR:zzd a0=r;unfold zzd at hR;refine di Tryz.func259 Tryz.ntmps259 Tryz.results259 ?_;intro c hL hc hk;obtain⟨hL0,_⟩:=hL;have hw0:a0.length<9223372036854775808:=Nat.lt_succ_of_le (yj hL0).1;clear hL0;simp only[pars,Nat.zero_add];iterate 3 refine rS ?_
 refine AWP.block ?_;generalize hz1:yd (y9o a0) (a0.length-0) 0 0=z1 at hR;refine AWP.range (y9o a0) (fun i1 s1=>⟨[(0,encL 1 yt a0),(3,.int .i64 s1),(4,.int .i64 (i1:Int))],[]⟩) (fun i1 s1=>True) (a0.length) 0 0 [] hz1 ot wt sm ?_;clear hz1;intro i1 s1 hi1 hW1 hz1;refine rS ?_;refine AWP.cond rfl (fun hb => ?_) (fun hb => ?_)
 ·have hlt1:i1<a0.length:=ot
  rw[yg hlt1]at hz1;simp only[y9o]at hz1;iterate 2 refine rS ?_
  exact⟨_,[],hlt1,wt,hz1,sm⟩
 ·obtain rfl:i1=a0.length:=ot
  rw[yh (Nat.le_refl _)]at hz1;subst hz1;dsimp only at hR;refine AWP.exit ?_;refine yb ?_;refine rS ?_;refine AWP.ret ?_;subst hR;exact es
end N259
def D_zzd : DF
 | [x0]=>some (.int .i64 (zzd (rdL y5b x0)),false,[wL 1 yt y5b x0])
 | _=>none
theorem yk3:OkD Tryz.prog 259 D_zzd:=by unfold D_zzd;exact dk N259.den
def zbc (a0:Int):Int:=
 (bif (a0 == 2)then 10 else(bif (a0 == 4)then 15 else(bif (a0 == 5)then 20 else(bif (a0 == 7)then 3 else 5))))
namespace N310
theorem DD:DOk Tryz.prog (Go.Ab.DD []):=ye _
theorem den (a0:Int)  : Den Tryz.prog 310 [.int .i64 a0] (.int .i64 (zbc a0)):=by
 generalize hR:zbc a0=r;unfold zbc at hR;refine di Tryz.func310 Tryz.ntmps310 Tryz.results310 ?_;intro c hL hc hk;clear hL;simp only[pars,Nat.zero_add];iterate 3 refine rS ?_
 refine AWP.cond rfl (fun hb => ?_) (fun hb => ?_)
 ·replace hR:=ct hR
  refine rS ?_;refine AWP.ret ?_;subst hR;exact es
 ·replace hR:=cf hR
  refine rS ?_;refine AWP.cond rfl (fun hb => ?_) (fun hb => ?_)
  ·replace hR:=ct hR
   refine rS ?_;refine AWP.ret ?_;subst hR;exact es
  ·replace hR:=cf hR
   refine rS ?_;refine AWP.cond rfl (fun hb => ?_) (fun hb => ?_)
   ·replace hR:=ct hR
    refine rS ?_;refine AWP.ret ?_;subst hR;exact es
   ·replace hR:=cf hR
    refine rS ?_;refine AWP.cond rfl (fun hb => ?_) (fun hb => ?_)
    ·replace hR:=ct hR
     refine rS ?_;refine AWP.ret ?_;subst hR;exact es
    ·replace hR:=cf hR
     refine rS ?_;refine AWP.ret ?_;subst hR;exact es
end N310
def D_zbc : DF
 | [x0]=>some (.int .i64 (zbc (rdI x0)),false,[wI .i64 x0])
 | _=>none
theorem ytu:OkD Tryz.prog 310 D_zbc:=by unfold D_zbc;exact dk N310.den
def zfe (a0:Int):Int:=
 (bif (a0 == 2)then 10 else(bif (a0 == 5)then 20 else(bif (a0 == 7)then 2 else 5)))
namespace N311
theorem DD:DOk Tryz.prog (Go.Ab.DD []):=ye _
theorem den (a0:Int)  : Den Tryz.prog 311 [.int .i64 a0] (.int .i64 (zfe a0)):=by
 generalize hR:zfe a0=r;unfold zfe at hR;refine di Tryz.func311 Tryz.ntmps311 Tryz.results311 ?_;intro c hL hc hk;clear hL;simp only[pars,Nat.zero_add];iterate 3 refine rS ?_
 refine AWP.cond rfl (fun hb => ?_) (fun hb => ?_)
 ·replace hR:=ct hR
  refine rS ?_;refine AWP.ret ?_;subst hR;exact es
 ·replace hR:=cf hR
  refine rS ?_;refine AWP.cond rfl (fun hb => ?_) (fun hb => ?_)
  ·replace hR:=ct hR
   refine rS ?_;refine AWP.ret ?_;subst hR;exact es
  ·replace hR:=cf hR
   refine rS ?_;refine AWP.cond rfl (fun hb => ?_) (fun hb => ?_)
   ·replace hR:=ct hR
    refine rS ?_;refine AWP.ret ?_;subst hR;exact es
   ·replace hR:=cf hR
    refine rS ?_;refine AWP.ret ?_;subst hR;exact es
end N311
def D_zfe : DF
 | [x0]=>some (.int .i64 (zfe (rdI x0)),false,[wI .i64 x0])
 | _=>none
theorem y61:OkD Tryz.prog 311 D_zfe:=by unfold D_zfe;exact dk N311.den
def zkf (a0:Character):Int:=
 (bif (a0.Kind == 6)then 20 else(bif (a0.Kind == 7)then 10 else(bif (a0.Kind == 8)then 30 else(bif decide (1<(a0.Group.length:Int))then IntKind.wrap .i64 ((IntKind.wrap .i64 ((zbc a0.Kind)+5))+20)else IntKind.wrap .i64 ((zbc a0.Kind)+5)))))
namespace N261
theorem DD:DOk Tryz.prog (Go.Ab.DD [(310,dP D_zbc)]):=ya ytu.e <| ye _
theorem dn:type_of% (@D_zbc.eq_1):=by and_intros<;>intros<;>rfl
theorem den (a0:Character)  : Den Tryz.prog 261 [.ep (yi a0)] (.int .i64 (zkf a0)):=by
 generalize hR:zkf a0=r;unfold zkf at hR;refine di Tryz.func261 Tryz.ntmps261 Tryz.results261 ?_;intro c hL hc hk;obtain⟨hL0,_⟩:=hL;have hw0:bwCharacter a0:=yp a0 hL0;clear hL0;simp only[pars,Nat.zero_add];iterate 3 refine rS ?_
 refine AWP.cond rfl (fun hb => ?_) (fun hb => ?_)
 ·replace hR:=ct hR
  refine rS ?_;refine AWP.ret ?_;subst hR;exact es
 ·replace hR:=cf hR
  refine rS ?_;refine AWP.cond rfl (fun hb => ?_) (fun hb => ?_)
  ·replace hR:=ct hR
   refine rS ?_;refine AWP.ret ?_;subst hR;exact es
  ·replace hR:=cf hR
   refine rS ?_;refine AWP.cond rfl (fun hb => ?_) (fun hb => ?_)
   ·replace hR:=ct hR
    refine rS ?_;refine AWP.ret ?_;subst hR;exact es
   ·replace hR:=cf hR
    iterate 2 refine rS ?_
    refine AWP.cond rfl (fun hb => ?_) (fun hb => ?_)
    ·replace hR:=ct hR
     iterate 2 refine rS ?_
     refine AWP.ret ?_;subst hR;exact es
    ·replace hR:=cf hR
     refine rS ?_;refine AWP.ret ?_;subst hR;exact es
end N261
def D_zkf : DF
 | [x0]=>some (.int .i64 (zkf (rdP yc x0)),false,[wP yi yc x0])
 | _=>none
theorem yw3:OkD Tryz.prog 261 D_zkf:=by unfold D_zkf;exact dk N261.den
def zfg (a0:Sector):Bool:=
 ((zi a0.From 0 359) && (zi a0.To 0 359))
namespace N262
theorem DD:DOk Tryz.prog (Go.Ab.DD [(95,dP D_zi)]):=ya yce.e <| ye _
theorem dn:type_of% (@D_zi.eq_1):=by and_intros<;>intros<;>rfl
theorem ol:type_of% (@zi.eq_1):=@zi.eq_1
theorem den (a0:Sector)  : Den Tryz.prog 262 [.ep (ym a0)] (.bool (zfg a0)):=by
 generalize hR:zfg a0=r;unfold zfg at hR;refine di Tryz.func262 Tryz.ntmps262 Tryz.results262 ?_;intro c hL hc hk;obtain⟨hL0,_⟩:=hL;have hw0:bwSector a0:=yx a0 hL0;clear hL0;simp only[pars,Nat.zero_add];iterate 2 refine rS ?_
 refine AWP.ret ?_;subst hR;exact es
end N262
def D_zfg : DF
 | [x0]=>some (.bool (zfg (rdP yq x0)),false,[wP ym yq x0])
 | _=>none
theorem yj1:OkD Tryz.prog 262 D_zfg:=by unfold D_zfg;exact dk N262.den
def zlf (a0:(List UInt8)):Bool:=
 ((((a0 == [87]) || (a0 == [82])) || (a0 == [71])) || (a0 == [89]))
namespace N263
theorem DD:DOk Tryz.prog (Go.Ab.DD []):=ye _
theorem den (a0:(List UInt8))  : Den Tryz.prog 263 [.str a0] (.bool (zlf a0)):=by
 generalize hR:zlf a0=r;unfold zlf at hR;refine di Tryz.func263 Tryz.ntmps263 Tryz.results263 ?_;intro c hL hc hk;obtain⟨hL0,_⟩:=hL;have hw0:a0.length<9223372036854775808:=Nat.lt_succ_of_le hL0;clear hL0;simp only[pars,Nat.zero_add];iterate 2 refine rS ?_
 refine AWP.ret ?_;subst hR;exact es
end N263
def D_zlf : DF
 | [x0]=>some (.bool (zlf (rdS x0)),false,[wS x0])
 | _=>none
theorem yp3:OkD Tryz.prog 263 D_zlf:=by unfold D_zlf;exact dk N263.den
def zyc (a0:Sector):Bool:=
 ((zfg a0) && (zlf a0.Color))
namespace N204
theorem DD:DOk Tryz.prog (Go.Ab.DD [(262,dP D_zfg),(263,dP D_zlf)]):=ya yj1.e <| ya yp3.e <| ye _
theorem dn:type_of% (And.intro @D_zfg.eq_1 <| @D_zlf.eq_1):=by and_intros<;>intros<;>rfl
theorem den (a0:Sector)  : Den Tryz.prog 204 [.ep (ym a0)] (.bool (zyc a0)):=by
 generalize hR:zyc a0=r;unfold zyc at hR;refine di Tryz.func204 Tryz.ntmps204 Tryz.results204 ?_;intro c hL hc hk;obtain⟨hL0,_⟩:=hL;have hw0:bwSector a0:=yx a0 hL0;clear hL0;simp only[pars,Nat.zero_add];iterate 2 refine rS ?_
 refine AWP.ret ?_;subst hR;exact es
end N204
def D_zyc : DF
 | [x0]=>some (.bool (zyc (rdP yq x0)),false,[wP ym yq x0])
 | _=>none
theorem yw4:OkD Tryz.prog 204 D_zyc:=by unfold D_zyc;exact dk N204.den
def zgg (a0:Sector):Int:=
 (bif (((IntKind.wrap .i64 ((IntKind.wrap .i64 (a0.To-a0.From))+360)).tmod 360) == 0)then 360 else(IntKind.wrap .i64 ((IntKind.wrap .i64 (a0.To-a0.From))+360)).tmod 360)
namespace N205
theorem DD:DOk Tryz.prog (Go.Ab.DD []):=ye _
theorem den (a0:Sector)  : Den Tryz.prog 205 [.ep (ym a0)] (.int .i64 (zgg a0)):=by
 generalize hR:zgg a0=r;unfold zgg at hR;refine di Tryz.func205 Tryz.ntmps205 Tryz.results205 ?_;intro c hL hc hk;obtain⟨hL0,_⟩:=hL;have hw0:bwSector a0:=yx a0 hL0;clear hL0;simp only[pars,Nat.zero_add];refine rS ?_;refine rD 11 ?_;refine rS ?_;refine AWP.cond rfl (fun hb => ?_) (fun hb => ?_)
 ·replace hR:=ct hR
  refine rS ?_;refine AWP.ret ?_;subst hR;exact es
 ·replace hR:=cf hR
  refine rS ?_;refine AWP.ret ?_;subst hR;exact es
end N205
def D_zgg : DF
 | [x0]=>some (.int .i64 (zgg (rdP yq x0)),false,[wP ym yq x0])
 | _=>none
theorem y50:OkD Tryz.prog 205 D_zgg:=by unfold D_zgg;exact dk N205.den
end Go.Ab
