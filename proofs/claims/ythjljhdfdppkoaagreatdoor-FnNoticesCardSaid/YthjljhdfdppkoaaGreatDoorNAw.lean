/- A part of a proof: walks of functions and lemmas of our own. No conditions. -/
import Derived.Test.YthjljhdfdppkoaaGreatDoorNAl
import Derived.Test.YthjljhdfdppkoaaGreatDoorNAv
set_option linter.unusedSectionVars false
set_option linter.unusedVariables false
set_option linter.unusedSimpArgs false
set_option maxHeartbeats 1000000
namespace Go.Ab
open Go Go.Proofs
def zih (a0:Notice) (a1:Notice):Bool:=
 (((((a0.Number == a1.Number) && (a0.Day == a1.Day)) && (a0.Kind == a1.Kind)) && (a0.Target == a1.Target)) && (zqd a0.Aid a1.Aid))
namespace N77
theorem DD:DOk Tryz.prog (Go.Ab.DD [(44,dP D_zqd)]):=ya ynp.e <| yf _
abbrev dn:=@D_zqd.eq_1
theorem den (a0:Notice) (a1:Notice)  : Den Tryz.prog 77 [.ep (ye a0),.ep (ye a1)] (.bool (zih a0 a1)):=by
 generalize hR:zih a0 a1=r;unfold zih at hR;refine di Tryz.func77 Tryz.ntmps77 Tryz.results77 ?_;intro c hL hc hk;obtain⟨hL0,hL1,_⟩:=hL;have hw0:bwNotice a0:=yi a0 hL0;have hw1:bwNotice a1:=yi a1 hL1;clear hL0 hL1;simp only[pars,Nat.zero_add];refine rS ?_;refine rD 51 ?_;refine AWP.ret ?_;subst hR;exact es
end N77
def D_zih : DF
 | [x0,x1]=>some (.bool (zih (rdP yc x0) (rdP yc x1)),false,[wP ye yc x0,wP ye yc x1])
 | _=>none
theorem yw3:OkD Tryz.prog 77 D_zih:=by unfold D_zih;exact dk N77.den
def yyq (a0:(List Notice)) (a1:(List Notice)) (i1:Nat) (s1:Unit):Except (Bool) (Unit):=
 (bif (!(zih (a0.getD i1 default) (a1.getD i1 default)))then .error false else .ok ())
def zvf (a0:(List Notice)) (a1:(List Notice)):Bool:=
 (bif ((a0.length:Int) != (a1.length:Int))then false else(match yh (yyq a0 a1) (a0.length-0) 0 ()with|.error e=>e|.ok s1=>true))
namespace N34
theorem DD:DOk Tryz.prog (Go.Ab.DD [(77,dP D_zih)]):=ya yw3.e <| yf _
abbrev dn:=@D_zih.eq_1
theorem den (a0:(List Notice)) (a1:(List Notice))  : Den Tryz.prog 34 [encL 20 ye a0,encL 20 ye a1] (.bool (zvf a0 a1)):=by
 generalize hR:zvf a0 a1=r;unfold zvf at hR;refine di Tryz.func34 Tryz.ntmps34 Tryz.results34 ?_;intro c hL hc hk;obtain⟨hL0,hL1,_⟩:=hL;have hw0:a0.length<9223372036854775808:=Nat.lt_succ_of_le (yb hL0).1;have hw1:∀ v∈a0,bwNotice v:=fun v hv=>yi v ((yb hL0).2 v hv)
 have hw2:a1.length<9223372036854775808:=Nat.lt_succ_of_le (yb hL1).1;have hw3:∀ v∈a1,bwNotice v:=fun v hv=>yi v ((yb hL1).2 v hv)
 clear hL0 hL1;simp only[pars,Nat.zero_add];iterate 2 refine rS ?_
 refine AWP.cond rfl (fun hb => ?_) (fun hb => ?_)
 ·replace hR:=ct hR
  refine rS ?_;refine AWP.ret ?_;subst hR;exact es
 ·replace hR:=cf hR
  refine rS ?_;refine AWP.block ?_;generalize hz1:yh (yyq a0 a1) (a0.length-0) 0 ()=z1 at hR;refine AWP.range (yyq a0 a1) (fun i1 s1=>⟨[(0,encL 20 ye a0),(1,encL 20 ye a1),(5,.int .i64 (i1:Int))],[]⟩) (fun i1 s1=>True) (a0.length) 0 () [] hz1 ot wt sm ?_;clear hz1;intro i1 s1 hi1 hW1 hz1;refine rS ?_;refine AWP.cond rfl (fun hb => ?_) (fun hb => ?_)
  ·have hlt1:i1<a0.length:=ot
   rw[yl hlt1]at hz1;simp only[yyq]at hz1;refine rD 6 ?_;refine AWP.cond rfl (fun hb => ?_) (fun hb => ?_)
   ·simp only[hb,cond_true]at hz1
    refine rS ?_;refine AWP.ret ?_;subst hz1;dsimp only at hR;subst hR;exact es
   ·simp only[hb,cond_false]at hz1
    refine rS ?_;exact⟨_,[],hlt1,wt,hz1,sm⟩
  ·obtain rfl:i1=a0.length:=ot
   rw[yk (Nat.le_refl _)]at hz1;subst hz1;dsimp only at hR;refine AWP.exit ?_;refine yd ?_;refine rS ?_;refine AWP.ret ?_;subst hR;exact es
end N34
def D_zvf : DF
 | [x0,x1]=>some (.bool (zvf (rdL yc x0) (rdL yc x1)),false,[wL 20 ye yc x0,wL 20 ye yc x1])
 | _=>none
theorem yq7:OkD Tryz.prog 34 D_zvf:=by unfold D_zvf;exact dk N34.den
def zjh (a0:(List Notice)) (a1:(List Notice)):Bool:=
 (zvf a0 a1)
namespace N11
theorem DD:DOk Tryz.prog (Go.Ab.DD [(34,dP D_zvf)]):=ya yq7.e <| yf _
abbrev dn:=@D_zvf.eq_1
theorem den (a0:(List Notice)) (a1:(List Notice))  : Den Tryz.prog 11 [encL 20 ye a0,encL 20 ye a1] (.bool (zjh a0 a1)):=by
 generalize hR:zjh a0 a1=r;unfold zjh at hR;refine di Tryz.func11 Tryz.ntmps11 Tryz.results11 ?_;intro c hL hc hk;obtain⟨hL0,hL1,_⟩:=hL;have hw0:a0.length<9223372036854775808:=Nat.lt_succ_of_le (yb hL0).1;have hw1:∀ v∈a0,bwNotice v:=fun v hv=>yi v ((yb hL0).2 v hv)
 have hw2:a1.length<9223372036854775808:=Nat.lt_succ_of_le (yb hL1).1;have hw3:∀ v∈a1,bwNotice v:=fun v hv=>yi v ((yb hL1).2 v hv)
 clear hL0 hL1;simp only[pars,Nat.zero_add];iterate 2 refine rS ?_
 refine AWP.ret ?_;subst hR;exact es
end N11
def D_zjh : DF
 | [x0,x1]=>some (.bool (zjh (rdL yc x0) (rdL yc x1)),false,[wL 20 ye yc x0,wL 20 ye yc x1])
 | _=>none
theorem y94:OkD Tryz.prog 11 D_zjh:=by unfold D_zjh;exact dk N11.den
end Go.Ab
