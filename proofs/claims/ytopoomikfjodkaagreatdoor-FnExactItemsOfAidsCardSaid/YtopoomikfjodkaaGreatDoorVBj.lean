/- A part of a proof: walks of functions and lemmas of our own. No conditions. -/
import Derived.Test.YtopoomikfjodkaaGreatDoorVBi
import Derived.Test.YtopoomikfjodkaaGreatDoorVAi
import Derived.Test.YtopoomikfjodkaaGreatDoorVAp
import Derived.Test.YtopoomikfjodkaaGreatDoorVAl
set_option linter.unusedSectionVars false
set_option linter.unusedVariables false
set_option linter.unusedSimpArgs false
set_option maxHeartbeats 1000000
namespace Go.Ab
open Go Go.Proofs
theorem ykw (x:Sector) (n:Int) (h0 : -1≤n) (h1:n≤1048576) (hx:bwSector x) : -1≤zyd x n∧zyd x n≤n∧(¬ zyd x n<0→ykg x):=by
 have b0:=hx
 unfold zyd
 have b0':x.Color.length<9223372036854775808:=b0
 rw[show IntKind.wrap .i64 (n-(x.Color.length:Int))=n-(x.Color.length:Int)from by rw[IntKind.wrap_i64];omega]
 by_cases c0:n-(x.Color.length:Int)<0
 ·rw[decide_eq_true c0];exact⟨by simp,by simpa using h0,fun h=>absurd (by simp) h⟩
 rw[decide_eq_false c0]
 simp only[cond_false]
 exact⟨by omega,by omega,fun _=>(show x.Color.length≤1048576 by omega)⟩
end Go.Ab

namespace Go.Ab
open Go Go.Proofs
def ywj (a0:(List Sector)) (a1:Int) (i1:Nat) (s1:Int):Except (Int) (Int):=
 (bif decide ((zyd (a0.getD i1 default) s1)<0)then .error (-1)else .ok (zyd (a0.getD i1 default) s1))
def zec (a0:(List Sector)) (a1:Int):Int:=
 (bif decide ((IntKind.wrap .i64 (a1-(a0.length:Int)))<0)then(-1)else(match yf (ywj a0 a1) (a0.length-0) 0 (IntKind.wrap .i64 (a1-(a0.length:Int)))with|.error e=>e|.ok s1=>s1))
namespace N97
theorem DD:DOk Tryz.prog (Go.Ab.DD [(194,dP D_zyd)]):=ya y51.e <| yd _
theorem dn:type_of% (@D_zyd.eq_1):=by and_intros<;>intros<;>rfl
theorem den (a0:(List Sector)) (a1:Int)  : Den Tryz.prog 97 [encL 3 eSector a0,.int .i64 a1] (.int .i64 (zec a0 a1)):=by
 generalize hR:zec a0 a1=r
 unfold zec at hR
 refine di Tryz.func97 Tryz.ntmps97 Tryz.results97 ?_
 intro c hL hc hk
 obtain⟨hL0,hL1,_⟩:=hL
 have hw0:a0.length<9223372036854775808:=Nat.lt_succ_of_le (ye hL0).1
 have hw1:∀ v∈a0,bwSector v:=fun v hv=>yn v ((ye hL0).2 v hv)
 clear hL0 hL1
 simp only[pars,Nat.zero_add]
 iterate 3 refine rS ?_
 refine AWP.cond rfl (fun hb => ?_) (fun hb => ?_)
 ·replace hR:=ct hR
  refine rS ?_
  refine AWP.ret ?_
  subst hR
  exact es
 ·replace hR:=cf hR
  refine rS ?_
  refine AWP.block ?_
  generalize hz1:yf (ywj a0 a1) (a0.length-0) 0 (IntKind.wrap .i64 (a1-(a0.length:Int)))=z1 at hR
  refine AWP.range (ywj a0 a1) (fun i1 s1=>⟨[(0,encL 3 eSector a0),(1,.int .i64 s1),(5,.int .i64 (i1:Int))],[]⟩) (fun i1 s1=>True) (a0.length) 0 (IntKind.wrap .i64 (a1-(a0.length:Int))) [] hz1 ot wt sm ?_
  clear hz1
  intro i1 s1 hi1 hW1 hz1
  refine rS ?_
  refine AWP.cond rfl (fun hb => ?_) (fun hb => ?_)
  ·have hlt1:i1<a0.length:=ot
   rw[yh hlt1]at hz1;simp only[ywj]at hz1
   iterate 2 refine rS ?_
   refine AWP.cond rfl (fun hb => ?_) (fun hb => ?_)
   ·simp only[hb,cond_true]at hz1
    refine rS ?_
    refine AWP.ret ?_
    subst hz1
    dsimp only at hR
    subst hR
    exact es
   ·simp only[hb,cond_false]at hz1
    refine rS ?_
    exact⟨_,[],hlt1,wt,hz1,sm⟩
  ·obtain rfl:i1=a0.length:=ot
   rw[yi (Nat.le_refl _)]at hz1;subst hz1;dsimp only at hR
   refine AWP.exit ?_;refine yb ?_
   refine rS ?_
   refine AWP.ret ?_
   subst hR
   exact es
end N97
def D_zec : DF
 | [x0,x1]=>some (.int .i64 (zec (rdL yk x0) (rdI x1)),false,[wL 3 eSector yk x0,wI .i64 x1])
 | _=>none
theorem yzz:OkD Tryz.prog 97 D_zec:=by unfold D_zec;exact dk N97.den
end Go.Ab

namespace Go.Ab
open Go Go.Proofs
theorem ysw (x:Mark) (n:Int) (h0 : -1≤n) (h1:n≤1048576) (hx:bwMark x) : -1≤zkc x n∧zkc x n≤n∧(¬ zkc x n<0→yzw x):=by
 obtain⟨b0,b1,b2⟩:=hx
 unfold zkc
 have b0':x.Colors.length<9223372036854775808:=b0
 rw[show IntKind.wrap .i64 (n-(x.Colors.length:Int))=n-(x.Colors.length:Int)from by rw[IntKind.wrap_i64];omega]
 by_cases c0:n-(x.Colors.length:Int)<0
 ·rw[decide_eq_true c0];exact⟨by simp,by simpa using h0,fun h=>absurd (by simp) h⟩
 rw[decide_eq_false c0]
 simp only[cond_false]
 have b1':x.Shape.length<9223372036854775808:=b1
 rw[show IntKind.wrap .i64 (n-(x.Colors.length:Int)-(x.Shape.length:Int))=n-(x.Colors.length:Int)-(x.Shape.length:Int)from by rw[IntKind.wrap_i64];omega]
 by_cases c1:n-(x.Colors.length:Int)-(x.Shape.length:Int)<0
 ·rw[decide_eq_true c1];exact⟨by simp,by simpa using h0,fun h=>absurd (by simp) h⟩
 rw[decide_eq_false c1]
 simp only[cond_false]
 have b2':x.Topmark.length<9223372036854775808:=b2
 rw[show IntKind.wrap .i64 (n-(x.Colors.length:Int)-(x.Shape.length:Int)-(x.Topmark.length:Int))=n-(x.Colors.length:Int)-(x.Shape.length:Int)-(x.Topmark.length:Int)from by rw[IntKind.wrap_i64];omega]
 by_cases c2:n-(x.Colors.length:Int)-(x.Shape.length:Int)-(x.Topmark.length:Int)<0
 ·rw[decide_eq_true c2];exact⟨by simp,by simpa using h0,fun h=>absurd (by simp) h⟩
 rw[decide_eq_false c2]
 simp only[cond_false]
 exact⟨by omega,by omega,fun _=>⟨by omega,by omega,by omega⟩⟩
end Go.Ab

namespace Go.Ab
open Go Go.Proofs
theorem ymv (x:Character) (n:Int) (h0 : -1≤n) (h1:n≤1048576) (hx:bwCharacter x) : -1≤zid x n∧zid x n≤n∧(¬ zid x n<0→ykf x):=by
 obtain⟨b0,b1,b2⟩:=hx
 unfold zid
 have f0:=ykv x.Group (n) (by omega) (by omega) b0
 by_cases c0:zdc x.Group (n)<0
 ·rw[decide_eq_true c0];exact⟨by simp,by simpa using h0,fun h=>absurd (by simp) h⟩
 rw[decide_eq_false c0]
 simp only[cond_false]
 have b1':x.Letter.length<9223372036854775808:=b1
 rw[show IntKind.wrap .i64 (zdc x.Group (n)-(x.Letter.length:Int))=zdc x.Group (n)-(x.Letter.length:Int)from by rw[IntKind.wrap_i64];omega]
 by_cases c1:zdc x.Group (n)-(x.Letter.length:Int)<0
 ·rw[decide_eq_true c1];exact⟨by simp,by simpa using h0,fun h=>absurd (by simp) h⟩
 rw[decide_eq_false c1]
 simp only[cond_false]
 have b2':x.Colors.length<9223372036854775808:=b2
 rw[show IntKind.wrap .i64 (zdc x.Group (n)-(x.Letter.length:Int)-(x.Colors.length:Int))=zdc x.Group (n)-(x.Letter.length:Int)-(x.Colors.length:Int)from by rw[IntKind.wrap_i64];omega]
 by_cases c2:zdc x.Group (n)-(x.Letter.length:Int)-(x.Colors.length:Int)<0
 ·rw[decide_eq_true c2];exact⟨by simp,by simpa using h0,fun h=>absurd (by simp) h⟩
 rw[decide_eq_false c2]
 simp only[cond_false]
 exact⟨by omega,by omega,fun _=>⟨f0.2.2 c0,by omega,by omega⟩⟩
end Go.Ab

namespace Go.Ab
open Go Go.Proofs
theorem y7v (a:List Sector) (n:Int) (h0 : -1≤n) (h1:n≤1048576) (hl:a.length<9223372036854775808) (hx:∀ v∈a,bwSector v) :
  -1≤zec a n∧zec a n≤n∧(¬ zec a n<0→a.length≤1048576∧∀ v∈a,ykg v):=by
 unfold zec
 rw[show IntKind.wrap .i64 (n-(a.length:Int))=n-a.length from by rw[IntKind.wrap_i64];omega]
 by_cases c:n-(a.length:Int)<0
 ·rw[decide_eq_true c];exact⟨by simp,by simpa using h0,fun h=>absurd (by simp) h⟩
 ·rw[decide_eq_false c]
  simp only[cond_false]
  split
  ·rename_i e h
   obtain⟨j,t,_,_,h3⟩:=y8c h
   simp only[ywj]at h3
   have:e = -1:=by
    cases hq:decide (zyd (a.getD j default) t<0)with
    | true=>rw[hq]at h3;simpa using h3.symm
    | false=>rw[hq]at h3;simp at h3
   omega
  ·rename_i s h
   have:=yyj (b:=ywj a n) (fun i s => -1≤s∧s≤n-a.length∧∀ j,j<i→ykg (a.getD j default)) ⟨by omega,by omega,by intro j hj;omega⟩ (by
    intro j u v h1 h2 ⟨h3,h4,h5⟩ h6
    simp only[ywj]at h6
    have hb:bwSector (a.getD j default):=ybd hx (by decide) j
    have hf:=ykw (a.getD j default) u h3 (by omega) hb
    cases hq:decide (zyd (a.getD j default) u<0)with
    | true=>rw[hq]at h6;simp at h6
    | false=>
     rw[hq]at h6
     simp only[cond_false,Except.ok.injEq]at h6
     subst h6
     refine⟨by omega,by omega,fun q hq2 => ?_⟩
     by_cases hqj:q=j
     ·subst hqj;exact hf.2.2 (of_decide_eq_false hq)
     ·exact h5 q (by omega)) h
   refine⟨by omega,by omega,fun _=>⟨by omega,fun v hv => ?_⟩⟩
   obtain⟨i,hi,rfl⟩:=List.getElem_of_mem hv
   have:=this.2.2 i (by omega)
   simpa [List.getD_eq_getElem?_getD,hi]using this
end Go.Ab

namespace Go.Ab
open Go Go.Proofs
def zv (a0:Aid) (a1:Int):Int:=
 (bif decide ((IntKind.wrap .i64 (a1-(a0.Name.length:Int)))<0)then(-1)else(bif decide ((zkc a0.Mark (IntKind.wrap .i64 (a1-(a0.Name.length:Int))))<0)then(-1)else(bif decide ((zid a0.Light (zkc a0.Mark (IntKind.wrap .i64 (a1-(a0.Name.length:Int)))))<0)then(-1)else(bif decide ((zec a0.Sectors (zid a0.Light (zkc a0.Mark (IntKind.wrap .i64 (a1-(a0.Name.length:Int))))))<0)then(-1)else(zec a0.Sectors (zid a0.Light (zkc a0.Mark (IntKind.wrap .i64 (a1-(a0.Name.length:Int))))))))))
namespace N29
theorem DD:DOk Tryz.prog (Go.Ab.DD [(95,dP D_zkc),(96,dP D_zid),(97,dP D_zec)]):=ya y4z.e <| ya yt1.e <| ya yzz.e <| yd _
theorem dn:type_of% (And.intro @D_zkc.eq_1 <| And.intro @D_zid.eq_1 <| @D_zec.eq_1):=by and_intros<;>intros<;>rfl
theorem den (a0:Aid) (a1:Int)  : Den Tryz.prog 29 [.agg (eAid a0),.int .i64 a1] (.int .i64 (zv a0 a1)):=by
 generalize hR:zv a0 a1=r
 unfold zv at hR
 refine di Tryz.func29 Tryz.ntmps29 Tryz.results29 ?_
 intro c hL hc hk
 obtain⟨hL0,hL1,_⟩:=hL
 have hw0:bwAid a0:=yy a0 hL0
 clear hL0 hL1
 simp only[pars,Nat.zero_add]
 iterate 3 refine rS ?_
 refine AWP.cond rfl (fun hb => ?_) (fun hb => ?_)
 ·replace hR:=ct hR
  refine rS ?_
  refine AWP.ret ?_
  subst hR
  exact es
 ·replace hR:=cf hR
  iterate 2 refine rS ?_
  refine AWP.cond rfl (fun hb => ?_) (fun hb => ?_)
  ·replace hR:=ct hR
   refine rS ?_
   refine AWP.ret ?_
   subst hR
   exact es
  ·replace hR:=cf hR
   iterate 2 refine rS ?_
   refine AWP.cond rfl (fun hb => ?_) (fun hb => ?_)
   ·replace hR:=ct hR
    refine rS ?_
    refine AWP.ret ?_
    subst hR
    exact es
   ·replace hR:=cf hR
    iterate 2 refine rS ?_
    refine AWP.cond rfl (fun hb => ?_) (fun hb => ?_)
    ·replace hR:=ct hR
     refine rS ?_
     refine AWP.ret ?_
     subst hR
     exact es
    ·replace hR:=cf hR
     refine rS ?_
     refine AWP.ret ?_
     subst hR
     exact es
end N29
def D_zv : DF
 | [x0,x1]=>some (.int .i64 (zv (rdG dAid x0) (rdI x1)),false,[wG eAid dAid x0,wI .i64 x1])
 | _=>none
theorem y0l:OkD Tryz.prog 29 D_zv:=by unfold D_zv;exact dk N29.den
end Go.Ab

namespace Go.Ab
open Go Go.Proofs
theorem ypi (x:Aid) (n:Int) (h0 : -1≤n) (h1:n≤1048576) (hx:bwAid x) : -1≤zv x n∧zv x n≤n∧(¬ zv x n<0→yfp x):=by
 obtain⟨b0,b1,b2,b3⟩:=hx
 unfold zv
 have b0':x.Name.length<9223372036854775808:=b0
 rw[show IntKind.wrap .i64 (n-(x.Name.length:Int))=n-(x.Name.length:Int)from by rw[IntKind.wrap_i64];omega]
 by_cases c0:n-(x.Name.length:Int)<0
 ·rw[decide_eq_true c0];exact⟨by simp,by simpa using h0,fun h=>absurd (by simp) h⟩
 rw[decide_eq_false c0]
 simp only[cond_false]
 have f1:=ysw x.Mark (n-(x.Name.length:Int)) (by omega) (by omega) b1
 by_cases c1:zkc x.Mark (n-(x.Name.length:Int))<0
 ·rw[decide_eq_true c1];exact⟨by simp,by simpa using h0,fun h=>absurd (by simp) h⟩
 rw[decide_eq_false c1]
 simp only[cond_false]
 have f2:=ymv x.Light (zkc x.Mark (n-(x.Name.length:Int))) (by omega) (by omega) b2
 by_cases c2:zid x.Light (zkc x.Mark (n-(x.Name.length:Int)))<0
 ·rw[decide_eq_true c2];exact⟨by simp,by simpa using h0,fun h=>absurd (by simp) h⟩
 rw[decide_eq_false c2]
 simp only[cond_false]
 have f3:=y7v x.Sectors (zid x.Light (zkc x.Mark (n-(x.Name.length:Int)))) (by omega) (by omega) b3.1 b3.2
 by_cases c3:zec x.Sectors (zid x.Light (zkc x.Mark (n-(x.Name.length:Int))))<0
 ·rw[decide_eq_true c3];exact⟨by simp,by simpa using h0,fun h=>absurd (by simp) h⟩
 rw[decide_eq_false c3]
 simp only[cond_false]
 exact⟨by omega,by omega,fun _=>⟨by omega,f1.2.2 c1,f2.2.2 c2,f3.2.2 c3⟩⟩
end Go.Ab
