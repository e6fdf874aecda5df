/- A part of a proof: walks of functions and lemmas of our own. No conditions. -/
import Derived.Test.YthadgghdkkapaaaGreatDoorMAl
import Derived.Test.YthadgghdkkapaaaGreatDoorMAx
import Derived.Test.YthadgghdkkapaaaGreatDoorMAi
import Derived.Test.YthadgghdkkapaaaGreatDoorMAo
import Derived.Test.YthadgghdkkapaaaGreatDoorMAp
import Derived.Test.YthadgghdkkapaaaGreatDoorMAs
import Derived.Test.YthadgghdkkapaaaGreatDoorMAw
import Derived.Test.YthadgghdkkapaaaGreatDoorMAu
import Derived.Test.YthadgghdkkapaaaGreatDoorMAt
import Derived.Test.YthadgghdkkapaaaGreatDoorMAn
import Derived.Test.YthadgghdkkapaaaGreatDoorMAv
set_option linter.unusedSectionVars false
set_option linter.unusedVariables false
set_option linter.unusedSimpArgs false
set_option maxHeartbeats 1000000
namespace Go.Ab
open Go Go.Proofs
def y3i (a0:(List Aid)) (a1:(List Aid)) (i1:Nat) (s1:Unit):Except (Bool) (Unit):=
 (bif (!(zce (a0.getD i1 default) (a1.getD i1 default)))then .error false else .ok ())
def zvb (a0:(List Aid)) (a1:(List Aid)):Bool:=
 (bif ((a0.length:Int) != (a1.length:Int))then false else(match yf (y3i a0 a1) (a0.length-0) 0 ()with|.error e=>e|.ok s1=>true))
namespace N28
theorem DD:DOk Tryz.prog (Go.Ab.DD [(21,dP D_zce)]):=ya you.e <| yc _
theorem dn:type_of% (@D_zce.eq_1):=by and_intros<;>intros<;>rfl
theorem den (a0:(List Aid)) (a1:(List Aid))  : Den Tryz.prog 28 [encL 16 eAid a0,encL 16 eAid a1] (.bool (zvb a0 a1)):=by
 generalize hR:zvb a0 a1=r;unfold zvb at hR;refine di Tryz.func28 Tryz.ntmps28 Tryz.results28 ?_;intro c hL hc hk;obtain⟨hL0,hL1,_⟩:=hL;have hw0:a0.length<9223372036854775808:=Nat.lt_succ_of_le (ye hL0).1;have hw1:∀ v∈a0,bwAid v:=fun v hv=>y9 v ((ye hL0).2 v hv)
 have hw2:a1.length<9223372036854775808:=Nat.lt_succ_of_le (ye hL1).1;have hw3:∀ v∈a1,bwAid v:=fun v hv=>y9 v ((ye hL1).2 v hv)
 clear hL0 hL1;simp only[pars,Nat.zero_add];iterate 2 refine rS ?_
 refine AWP.cond rfl (fun hb => ?_) (fun hb => ?_)
 ·replace hR:=ct hR
  refine rS ?_;refine AWP.ret ?_;subst hR;exact es
 ·replace hR:=cf hR
  refine rS ?_;refine AWP.block ?_;generalize hz1:yf (y3i a0 a1) (a0.length-0) 0 ()=z1 at hR;refine AWP.range (y3i a0 a1) (fun i1 s1=>⟨[(0,encL 16 eAid a0),(1,encL 16 eAid a1),(5,.int .i64 (i1:Int))],[]⟩) (fun i1 s1=>True) (a0.length) 0 () [] hz1 ot wt sm ?_;clear hz1;intro i1 s1 hi1 hW1 hz1;refine rS ?_;refine AWP.cond rfl (fun hb => ?_) (fun hb => ?_)
  ·have hlt1:i1<a0.length:=ot
   rw[yk hlt1]at hz1;simp only[y3i]at hz1;refine rD 8 ?_;refine AWP.cond rfl (fun hb => ?_) (fun hb => ?_)
   ·simp only[hb,cond_true]at hz1
    refine rS ?_;refine AWP.ret ?_;subst hz1;dsimp only at hR;subst hR;exact es
   ·simp only[hb,cond_false]at hz1
    refine rS ?_;exact⟨_,[],hlt1,wt,hz1,sm⟩
  ·obtain rfl:i1=a0.length:=ot
   rw[yj (Nat.le_refl _)]at hz1;subst hz1;dsimp only at hR;refine AWP.exit ?_;refine yb ?_;refine rS ?_;refine AWP.ret ?_;subst hR;exact es
end N28
def D_zvb : DF
 | [x0,x1]=>some (.bool (zvb (rdL dAid x0) (rdL dAid x1)),false,[wL 16 eAid dAid x0,wL 16 eAid dAid x1])
 | _=>none
theorem yhw:OkD Tryz.prog 28 D_zvb:=by unfold D_zvb;exact dk N28.den
theorem yiy (a b:Point):zyd a b=decide (a=b):=by
 unfold zyd;skip
 by_cases h:a=b
 ·subst h;simp
 ·rw[decide_eq_false h]
  cases a;cases b
  simp only[Point.mk.injEq]at h;simp only[bne_iff_ne,Bool.cond_eq_ite,ite_eq_right_iff]
  (repeat' split)<;>simp_all
theorem yoy (a b:Mark):zzd a b=decide (a=b):=by
 unfold zzd;skip
 by_cases h:a=b
 ·subst h;simp
 ·rw[decide_eq_false h]
  cases a;cases b
  simp only[Mark.mk.injEq]at h;simp only[bne_iff_ne,Bool.cond_eq_ite,ite_eq_right_iff]
  (repeat' split)<;>simp_all
theorem yhx (a b:List Int):zr a b=decide (a=b):=by
 unfold zr;by_cases hl:a.length=b.length
 ·have h1:((a.length:Int) != (b.length:Int))=false:=by simp[hl]
  rw[h1,cond_false,y7b (b:=y7p a b) (fun j => !decide (a.getD j default=b.getD j default)) false (fun j u _ _=>by simp only[y7p,ned])];simp only[Nat.sub_zero,Nat.zero_add];rw[ybl a b hl];by_cases h:a=b<;>simp[h]
 ·have h1:((a.length:Int) != (b.length:Int))=true:=by simp;omega
  have h2:¬ a=b:=fun e=>hl (by rw[e])
  rw[h1,cond_true,decide_eq_false h2]
theorem y0y (a b:Character):zae a b=decide (a=b):=by
 unfold zae;simp only[yhx];by_cases h:a=b
 ·subst h;simp
 ·rw[decide_eq_false h]
  cases a;cases b
  simp only[Character.mk.injEq]at h;simp only[bne_iff_ne,Bool.cond_eq_ite,ite_eq_right_iff]
  (repeat' split)<;>simp_all
theorem y4y (a b:Sector):zbe a b=decide (a=b):=by
 unfold zbe;skip
 by_cases h:a=b
 ·subst h;simp
 ·rw[decide_eq_false h]
  cases a;cases b
  simp only[Sector.mk.injEq]at h;simp only[bne_iff_ne,Bool.cond_eq_ite,ite_eq_right_iff]
  (repeat' split)<;>simp_all
theorem y5y (a b:List Sector):zcc a b=decide (a=b):=by
 unfold zcc;by_cases hl:a.length=b.length
 ·have h1:((a.length:Int) != (b.length:Int))=false:=by simp[hl]
  rw[h1,cond_false,y7b (b:=yfj a b) (fun j => !decide (a.getD j default=b.getD j default)) false (fun j u _ _=>by simp only[yfj,y4y])];simp only[Nat.sub_zero,Nat.zero_add];rw[ybl a b hl];by_cases h:a=b<;>simp[h]
 ·have h1:((a.length:Int) != (b.length:Int))=true:=by simp;omega
  have h2:¬ a=b:=fun e=>hl (by rw[e])
  rw[h1,cond_true,decide_eq_false h2]
theorem yny (a b:Aid):zce a b=decide (a=b):=by
 unfold zce;simp only[yiy,yoy,y0y,y5y];by_cases h:a=b
 ·subst h;simp
 ·rw[decide_eq_false h]
  cases a;cases b
  simp only[Aid.mk.injEq]at h;simp only[bne_iff_ne,Bool.cond_eq_ite,ite_eq_right_iff]
  (repeat' split)<;>simp_all
theorem ygy (a b:List Aid):zvb a b=decide (a=b):=by
 unfold zvb;by_cases hl:a.length=b.length
 ·have h1:((a.length:Int) != (b.length:Int))=false:=by simp[hl]
  rw[h1,cond_false,y7b (b:=y3i a b) (fun j => !decide (a.getD j default=b.getD j default)) false (fun j u _ _=>by simp only[y3i,yny])];simp only[Nat.sub_zero,Nat.zero_add];rw[ybl a b hl];by_cases h:a=b<;>simp[h]
 ·have h1:((a.length:Int) != (b.length:Int))=true:=by simp;omega
  have h2:¬ a=b:=fun e=>hl (by rw[e])
  rw[h1,cond_true,decide_eq_false h2]
def zjb (a0:Mark) (a1:Int):Int:=
 (bif decide ((IntKind.wrap .i64 (a1-(a0.Colors.length:Int)))<0)then(-1)else(bif decide ((IntKind.wrap .i64 ((IntKind.wrap .i64 (a1-(a0.Colors.length:Int)))-(a0.Shape.length:Int)))<0)then(-1)else(bif decide ((IntKind.wrap .i64 ((IntKind.wrap .i64 ((IntKind.wrap .i64 (a1-(a0.Colors.length:Int)))-(a0.Shape.length:Int)))-(a0.Topmark.length:Int)))<0)then(-1)else IntKind.wrap .i64 ((IntKind.wrap .i64 ((IntKind.wrap .i64 (a1-(a0.Colors.length:Int)))-(a0.Shape.length:Int)))-(a0.Topmark.length:Int)))))
namespace N62
theorem DD:DOk Tryz.prog (Go.Ab.DD []):=yc _
theorem den (a0:Mark) (a1:Int)  : Den Tryz.prog 62 [.agg (eMark a0),.int .i64 a1] (.int .i64 (zjb a0 a1)):=by
 generalize hR:zjb a0 a1=r;unfold zjb at hR;refine di Tryz.func62 Tryz.ntmps62 Tryz.results62 ?_;intro c hL hc hk;obtain⟨hL0,hL1,_⟩:=hL;have hw0:bwMark a0:=yrc a0 hL0;clear hL0 hL1;simp only[pars,Nat.zero_add];iterate 3 refine rS ?_
 refine AWP.cond rfl (fun hb => ?_) (fun hb => ?_)
 ·replace hR:=ct hR
  refine rS ?_;refine AWP.ret ?_;subst hR;exact es
 ·replace hR:=cf hR
  iterate 2 refine rS ?_
  refine AWP.cond rfl (fun hb => ?_) (fun hb => ?_)
  ·replace hR:=ct hR
   refine rS ?_;refine AWP.ret ?_;subst hR;exact es
  ·replace hR:=cf hR
   iterate 2 refine rS ?_
   refine AWP.cond rfl (fun hb => ?_) (fun hb => ?_)
   ·replace hR:=ct hR
    refine rS ?_;refine AWP.ret ?_;subst hR;exact es
   ·replace hR:=cf hR
    refine rS ?_;refine AWP.ret ?_;subst hR;exact es
end N62
def D_zjb : DF
 | [x0,x1]=>some (.int .i64 (zjb (rdG y7d x0) (rdI x1)),false,[wG eMark y7d x0,wI .i64 x1])
 | _=>none
theorem ydv:OkD Tryz.prog 62 D_zjb:=by unfold D_zjb;exact dk N62.den
def zy (a0:(List Int)) (a1:Int):Int:=
 (bif decide ((IntKind.wrap .i64 (a1-(a0.length:Int)))<0)then(-1)else IntKind.wrap .i64 (a1-(a0.length:Int)))
namespace N114
theorem DD:DOk Tryz.prog (Go.Ab.DD []):=yc _
theorem den (a0:(List Int)) (a1:Int)  : Den Tryz.prog 114 [encL 1 yl a0,.int .i64 a1] (.int .i64 (zy a0 a1)):=by
 generalize hR:zy a0 a1=r;unfold zy at hR;refine di Tryz.func114 Tryz.ntmps114 Tryz.results114 ?_;intro c hL hc hk;obtain⟨hL0,hL1,_⟩:=hL;have hw0:a0.length<9223372036854775808:=Nat.lt_succ_of_le (ye hL0).1;clear hL0 hL1;simp only[pars,Nat.zero_add];iterate 3 refine rS ?_
 refine AWP.cond rfl (fun hb => ?_) (fun hb => ?_)
 ·replace hR:=ct hR
  refine rS ?_;refine AWP.ret ?_;subst hR;exact es
 ·replace hR:=cf hR
  refine rS ?_;refine AWP.ret ?_;subst hR;exact es
end N114
def D_zy : DF
 | [x0,x1]=>some (.int .i64 (zy (rdL yab x0) (rdI x1)),false,[wL 1 yl yab x0,wI .i64 x1])
 | _=>none
theorem yqy:OkD Tryz.prog 114 D_zy:=by unfold D_zy;exact dk N114.den
theorem y1w (a:List Int) (n:Int) (h0 : -1<=n) (h1:n<=1048576) (hl:a.length<9223372036854775808) :
  -1<=zy a n/\zy a n<=n/\(¬ zy a n<0->a.length<=1048576):=by
 unfold zy;rw[show IntKind.wrap .i64 (n-(a.length:Int))=n-a.length from by rw[IntKind.wrap_i64];omega];by_cases c:n-(a.length:Int)<0
 ·rw[decide_eq_true c];exact⟨by simp,by simpa using h0,fun h=>absurd (by simp) h⟩
 ·rw[decide_eq_false c];simp only[cond_false];omega
def zdc (a0:Character) (a1:Int):Int:=
 (bif decide ((zy a0.Group a1)<0)then(-1)else(bif decide ((IntKind.wrap .i64 ((zy a0.Group a1)-(a0.Letter.length:Int)))<0)then(-1)else(bif decide ((IntKind.wrap .i64 ((IntKind.wrap .i64 ((zy a0.Group a1)-(a0.Letter.length:Int)))-(a0.Colors.length:Int)))<0)then(-1)else IntKind.wrap .i64 ((IntKind.wrap .i64 ((zy a0.Group a1)-(a0.Letter.length:Int)))-(a0.Colors.length:Int)))))
namespace N63
theorem DD:DOk Tryz.prog (Go.Ab.DD [(114,dP D_zy)]):=ya yqy.e <| yc _
theorem dn:type_of% (@D_zy.eq_1):=by and_intros<;>intros<;>rfl
theorem den (a0:Character) (a1:Int)  : Den Tryz.prog 63 [.agg (eCharacter a0),.int .i64 a1] (.int .i64 (zdc a0 a1)):=by
 generalize hR:zdc a0 a1=r;unfold zdc at hR;refine di Tryz.func63 Tryz.ntmps63 Tryz.results63 ?_;intro c hL hc hk;obtain⟨hL0,hL1,_⟩:=hL;have hw0:bwCharacter a0:=yn a0 hL0;clear hL0 hL1;simp only[pars,Nat.zero_add];iterate 3 refine rS ?_
 refine AWP.cond rfl (fun hb => ?_) (fun hb => ?_)
 ·replace hR:=ct hR
  refine rS ?_;refine AWP.ret ?_;subst hR;exact es
 ·replace hR:=cf hR
  iterate 2 refine rS ?_
  refine AWP.cond rfl (fun hb => ?_) (fun hb => ?_)
  ·replace hR:=ct hR
   refine rS ?_;refine AWP.ret ?_;subst hR;exact es
  ·replace hR:=cf hR
   iterate 2 refine rS ?_
   refine AWP.cond rfl (fun hb => ?_) (fun hb => ?_)
   ·replace hR:=ct hR
    refine rS ?_;refine AWP.ret ?_;subst hR;exact es
   ·replace hR:=cf hR
    refine rS ?_;refine AWP.ret ?_;subst hR;exact es
end N63
def D_zdc : DF
 | [x0,x1]=>some (.int .i64 (zdc (rdG yd x0) (rdI x1)),false,[wG eCharacter yd x0,wI .i64 x1])
 | _=>none
theorem yqv:OkD Tryz.prog 63 D_zdc:=by unfold D_zdc;exact dk N63.den
def zpc (a0:Sector) (a1:Int):Int:=
 (bif decide ((IntKind.wrap .i64 (a1-(a0.Color.length:Int)))<0)then(-1)else IntKind.wrap .i64 (a1-(a0.Color.length:Int)))
namespace N115
theorem DD:DOk Tryz.prog (Go.Ab.DD []):=yc _
theorem den (a0:Sector) (a1:Int)  : Den Tryz.prog 115 [.agg (eSector a0),.int .i64 a1] (.int .i64 (zpc a0 a1)):=by
 generalize hR:zpc a0 a1=r;unfold zpc at hR;refine di Tryz.func115 Tryz.ntmps115 Tryz.results115 ?_;intro c hL hc hk;obtain⟨hL0,hL1,_⟩:=hL;have hw0:bwSector a0:=yq a0 hL0;clear hL0 hL1;simp only[pars,Nat.zero_add];iterate 3 refine rS ?_
 refine AWP.cond rfl (fun hb => ?_) (fun hb => ?_)
 ·replace hR:=ct hR
  refine rS ?_;refine AWP.ret ?_;subst hR;exact es
 ·replace hR:=cf hR
  refine rS ?_;refine AWP.ret ?_;subst hR;exact es
end N115
def D_zpc : DF
 | [x0,x1]=>some (.int .i64 (zpc (rdG ym x0) (rdI x1)),false,[wG eSector ym x0,wI .i64 x1])
 | _=>none
theorem yot:OkD Tryz.prog 115 D_zpc:=by unfold D_zpc;exact dk N115.den
theorem yqr (x:Sector) (n:Int) (h0 : -1<=n) (h1:n<=1048576) (hx:bwSector x) : -1<=zpc x n/\zpc x n<=n/\(¬ zpc x n<0->yhf x):=by
 have b0:=hx;unfold zpc;have b0':x.Color.length<9223372036854775808:=b0;rw[show IntKind.wrap .i64 (n-(x.Color.length:Int))=n-(x.Color.length:Int)from by rw[IntKind.wrap_i64];omega];by_cases c0:n-(x.Color.length:Int)<0
 ·rw[decide_eq_true c0];exact⟨by simp,by simpa using h0,fun h=>absurd (by simp) h⟩
 rw[decide_eq_false c0];simp only[cond_false];exact⟨by omega,by omega,fun _=>(show x.Color.length<=1048576 by omega)⟩
def y0m (a0:(List Sector)) (a1:Int) (i1:Nat) (s1:Int):Except (Int) (Int):=
 (bif decide ((zpc (a0.getD i1 default) s1)<0)then .error (-1)else .ok (zpc (a0.getD i1 default) s1))
def zz (a0:(List Sector)) (a1:Int):Int:=
 (bif decide ((IntKind.wrap .i64 (a1-(a0.length:Int)))<0)then(-1)else(match yf (y0m a0 a1) (a0.length-0) 0 (IntKind.wrap .i64 (a1-(a0.length:Int)))with|.error e=>e|.ok s1=>s1))
namespace N64
theorem DD:DOk Tryz.prog (Go.Ab.DD [(115,dP D_zpc)]):=ya yot.e <| yc _
theorem dn:type_of% (@D_zpc.eq_1):=by and_intros<;>intros<;>rfl
theorem den (a0:(List Sector)) (a1:Int)  : Den Tryz.prog 64 [encL 3 eSector a0,.int .i64 a1] (.int .i64 (zz a0 a1)):=by
 generalize hR:zz a0 a1=r;unfold zz at hR;refine di Tryz.func64 Tryz.ntmps64 Tryz.results64 ?_;intro c hL hc hk;obtain⟨hL0,hL1,_⟩:=hL;have hw0:a0.length<9223372036854775808:=Nat.lt_succ_of_le (ye hL0).1;have hw1:∀ v∈a0,bwSector v:=fun v hv=>yq v ((ye hL0).2 v hv)
 clear hL0 hL1;simp only[pars,Nat.zero_add];iterate 3 refine rS ?_
 refine AWP.cond rfl (fun hb => ?_) (fun hb => ?_)
 ·replace hR:=ct hR
  refine rS ?_;refine AWP.ret ?_;subst hR;exact es
 ·replace hR:=cf hR
  refine rS ?_;refine AWP.block ?_;generalize hz1:yf (y0m a0 a1) (a0.length-0) 0 (IntKind.wrap .i64 (a1-(a0.length:Int)))=z1 at hR;refine AWP.range (y0m a0 a1) (fun i1 s1=>⟨[(0,encL 3 eSector a0),(1,.int .i64 s1),(5,.int .i64 (i1:Int))],[]⟩) (fun i1 s1=>True) (a0.length) 0 (IntKind.wrap .i64 (a1-(a0.length:Int))) [] hz1 ot wt sm ?_;clear hz1;intro i1 s1 hi1 hW1 hz1;refine rS ?_;refine AWP.cond rfl (fun hb => ?_) (fun hb => ?_)
  ·have hlt1:i1<a0.length:=ot
   rw[yk hlt1]at hz1;simp only[y0m]at hz1;iterate 2 refine rS ?_
   refine AWP.cond rfl (fun hb => ?_) (fun hb => ?_)
   ·simp only[hb,cond_true]at hz1
    refine rS ?_;refine AWP.ret ?_;subst hz1;dsimp only at hR;subst hR;exact es
   ·simp only[hb,cond_false]at hz1
    refine rS ?_;exact⟨_,[],hlt1,wt,hz1,sm⟩
  ·obtain rfl:i1=a0.length:=ot
   rw[yj (Nat.le_refl _)]at hz1;subst hz1;dsimp only at hR;refine AWP.exit ?_;refine yb ?_;refine rS ?_;refine AWP.ret ?_;subst hR;exact es
end N64
def D_zz : DF
 | [x0,x1]=>some (.int .i64 (zz (rdL ym x0) (rdI x1)),false,[wL 3 eSector ym x0,wI .i64 x1])
 | _=>none
theorem yzy:OkD Tryz.prog 64 D_zz:=by unfold D_zz;exact dk N64.den
theorem y4s (x:Mark) (n:Int) (h0 : -1<=n) (h1:n<=1048576) (hx:bwMark x) : -1<=zjb x n/\zjb x n<=n/\(¬ zjb x n<0->yyr x):=by
 obtain⟨b0,b1,b2⟩:=hx;unfold zjb;have b0':x.Colors.length<9223372036854775808:=b0;rw[show IntKind.wrap .i64 (n-(x.Colors.length:Int))=n-(x.Colors.length:Int)from by rw[IntKind.wrap_i64];omega];by_cases c0:n-(x.Colors.length:Int)<0
 ·rw[decide_eq_true c0];exact⟨by simp,by simpa using h0,fun h=>absurd (by simp) h⟩
 rw[decide_eq_false c0];simp only[cond_false];have b1':x.Shape.length<9223372036854775808:=b1;rw[show IntKind.wrap .i64 (n-(x.Colors.length:Int)-(x.Shape.length:Int))=n-(x.Colors.length:Int)-(x.Shape.length:Int)from by rw[IntKind.wrap_i64];omega];by_cases c1:n-(x.Colors.length:Int)-(x.Shape.length:Int)<0
 ·rw[decide_eq_true c1];exact⟨by simp,by simpa using h0,fun h=>absurd (by simp) h⟩
 rw[decide_eq_false c1];simp only[cond_false];have b2':x.Topmark.length<9223372036854775808:=b2;rw[show IntKind.wrap .i64 (n-(x.Colors.length:Int)-(x.Shape.length:Int)-(x.Topmark.length:Int))=n-(x.Colors.length:Int)-(x.Shape.length:Int)-(x.Topmark.length:Int)from by rw[IntKind.wrap_i64];omega];by_cases c2:n-(x.Colors.length:Int)-(x.Shape.length:Int)-(x.Topmark.length:Int)<0
 ·rw[decide_eq_true c2];exact⟨by simp,by simpa using h0,fun h=>absurd (by simp) h⟩
 rw[decide_eq_false c2];simp only[cond_false];exact⟨by omega,by omega,fun _=>⟨by omega,by omega,by omega⟩⟩
theorem ybr (x:Character) (n:Int) (h0 : -1<=n) (h1:n<=1048576) (hx:bwCharacter x) : -1<=zdc x n/\zdc x n<=n/\(¬ zdc x n<0->yye x):=by
 obtain⟨b0,b1,b2⟩:=hx;unfold zdc;have f0:=y1w x.Group (n) (by omega) (by omega) b0;by_cases c0:zy x.Group (n)<0
 ·rw[decide_eq_true c0];exact⟨by simp,by simpa using h0,fun h=>absurd (by simp) h⟩
 rw[decide_eq_false c0];simp only[cond_false];have b1':x.Letter.length<9223372036854775808:=b1;rw[show IntKind.wrap .i64 (zy x.Group (n)-(x.Letter.length:Int))=zy x.Group (n)-(x.Letter.length:Int)from by rw[IntKind.wrap_i64];omega];by_cases c1:zy x.Group (n)-(x.Letter.length:Int)<0
 ·rw[decide_eq_true c1];exact⟨by simp,by simpa using h0,fun h=>absurd (by simp) h⟩
 rw[decide_eq_false c1];simp only[cond_false];have b2':x.Colors.length<9223372036854775808:=b2;rw[show IntKind.wrap .i64 (zy x.Group (n)-(x.Letter.length:Int)-(x.Colors.length:Int))=zy x.Group (n)-(x.Letter.length:Int)-(x.Colors.length:Int)from by rw[IntKind.wrap_i64];omega];by_cases c2:zy x.Group (n)-(x.Letter.length:Int)-(x.Colors.length:Int)<0
 ·rw[decide_eq_true c2];exact⟨by simp,by simpa using h0,fun h=>absurd (by simp) h⟩
 rw[decide_eq_false c2];simp only[cond_false];exact⟨by omega,by omega,fun _=>⟨f0.2.2 c0,by omega,by omega⟩⟩
theorem yzw (a:List Sector) (n:Int) (h0 : -1<=n) (h1:n<=1048576) (hl:a.length<9223372036854775808) (hx:∀ v∈a,bwSector v) :
  -1<=zz a n/\zz a n<=n/\(¬ zz a n<0->a.length<=1048576/\∀ v∈a,yhf v):=by
 unfold zz;rw[show IntKind.wrap .i64 (n-(a.length:Int))=n-a.length from by rw[IntKind.wrap_i64];omega];by_cases c:n-(a.length:Int)<0
 ·rw[decide_eq_true c];exact⟨by simp,by simpa using h0,fun h=>absurd (by simp) h⟩
 ·rw[decide_eq_false c]
  simp only[cond_false];split
  ·rename_i e h
   obtain⟨j,t,_,_,h3⟩:=yzc h;simp only[y0m]at h3
   have:e = -1:=by
    cases hq:decide (zpc (a.getD j default) t<0)with
    | true=>rw[hq]at h3;simpa using h3.symm
    | false=>rw[hq]at h3;simp at h3
   omega
  ·rename_i s h
   have:=yjh (b:=y0m a n) (fun i s => -1<=s/\s<=n-a.length/\∀ j,j<i->yhf (a.getD j default)) ⟨by omega,by omega,by intro j hj;omega⟩ (by
    intro j u v h1 h2 ⟨h3,h4,h5⟩ h6;simp only[y0m]at h6;have hb:bwSector (a.getD j default):=yze hx (by decide) j;have hf:=yqr (a.getD j default) u h3 (by omega) hb
    cases hq:decide (zpc (a.getD j default) u<0)with
    | true=>rw[hq]at h6;simp at h6
    | false=>
     rw[hq]at h6;simp only[cond_false,Except.ok.injEq]at h6;subst h6;refine⟨by omega,by omega,fun q hq2 => ?_⟩;by_cases hqj:q=j
     ·subst hqj;exact hf.2.2 (of_decide_eq_false hq)
     ·exact h5 q (by omega)) h
   refine⟨by omega,by omega,fun _=>⟨by omega,fun v hv => ?_⟩⟩;obtain⟨i,hi,rfl⟩:=List.getElem_of_mem hv;have:=this.2.2 i (by omega);simpa [List.getD_eq_getElem?_getD,hi]using this
def zqc (a0:Aid) (a1:Int):Int:=
 (bif decide ((IntKind.wrap .i64 (a1-(a0.Name.length:Int)))<0)then(-1)else(bif decide ((zjb a0.Mark (IntKind.wrap .i64 (a1-(a0.Name.length:Int))))<0)then(-1)else(bif decide ((zdc a0.Light (zjb a0.Mark (IntKind.wrap .i64 (a1-(a0.Name.length:Int)))))<0)then(-1)else(bif decide ((zz a0.Sectors (zdc a0.Light (zjb a0.Mark (IntKind.wrap .i64 (a1-(a0.Name.length:Int))))))<0)then(-1)else(zz a0.Sectors (zdc a0.Light (zjb a0.Mark (IntKind.wrap .i64 (a1-(a0.Name.length:Int))))))))))
namespace N17
theorem DD:DOk Tryz.prog (Go.Ab.DD [(62,dP D_zjb),(63,dP D_zdc),(64,dP D_zz)]):=ya ydv.e <| ya yqv.e <| ya yzy.e <| yc _
theorem dn:type_of% (And.intro @D_zjb.eq_1 <| And.intro @D_zdc.eq_1 <| @D_zz.eq_1):=by and_intros<;>intros<;>rfl
theorem den (a0:Aid) (a1:Int)  : Den Tryz.prog 17 [.agg (eAid a0),.int .i64 a1] (.int .i64 (zqc a0 a1)):=by
 generalize hR:zqc a0 a1=r;unfold zqc at hR;refine di Tryz.func17 Tryz.ntmps17 Tryz.results17 ?_;intro c hL hc hk;obtain⟨hL0,hL1,_⟩:=hL;have hw0:bwAid a0:=y9 a0 hL0;clear hL0 hL1;simp only[pars,Nat.zero_add];iterate 3 refine rS ?_
 refine AWP.cond rfl (fun hb => ?_) (fun hb => ?_)
 ·replace hR:=ct hR
  refine rS ?_;refine AWP.ret ?_;subst hR;exact es
 ·replace hR:=cf hR
  iterate 2 refine rS ?_
  refine AWP.cond rfl (fun hb => ?_) (fun hb => ?_)
  ·replace hR:=ct hR
   refine rS ?_;refine AWP.ret ?_;subst hR;exact es
  ·replace hR:=cf hR
   iterate 2 refine rS ?_
   refine AWP.cond rfl (fun hb => ?_) (fun hb => ?_)
   ·replace hR:=ct hR
    refine rS ?_;refine AWP.ret ?_;subst hR;exact es
   ·replace hR:=cf hR
    iterate 2 refine rS ?_
    refine AWP.cond rfl (fun hb => ?_) (fun hb => ?_)
    ·replace hR:=ct hR
     refine rS ?_;refine AWP.ret ?_;subst hR;exact es
    ·replace hR:=cf hR
     refine rS ?_;refine AWP.ret ?_;subst hR;exact es
end N17
def D_zqc : DF
 | [x0,x1]=>some (.int .i64 (zqc (rdG dAid x0) (rdI x1)),false,[wG eAid dAid x0,wI .i64 x1])
 | _=>none
theorem yvw:OkD Tryz.prog 17 D_zqc:=by unfold D_zqc;exact dk N17.den
theorem yzr (x:Aid) (n:Int) (h0 : -1<=n) (h1:n<=1048576) (hx:bwAid x) : -1<=zqc x n/\zqc x n<=n/\(¬ zqc x n<0->y5r x):=by
 obtain⟨b0,b1,b2,b3⟩:=hx;unfold zqc;have b0':x.Name.length<9223372036854775808:=b0;rw[show IntKind.wrap .i64 (n-(x.Name.length:Int))=n-(x.Name.length:Int)from by rw[IntKind.wrap_i64];omega];by_cases c0:n-(x.Name.length:Int)<0
 ·rw[decide_eq_true c0];exact⟨by simp,by simpa using h0,fun h=>absurd (by simp) h⟩
 rw[decide_eq_false c0];simp only[cond_false];have f1:=y4s x.Mark (n-(x.Name.length:Int)) (by omega) (by omega) b1;by_cases c1:zjb x.Mark (n-(x.Name.length:Int))<0
 ·rw[decide_eq_true c1];exact⟨by simp,by simpa using h0,fun h=>absurd (by simp) h⟩
 rw[decide_eq_false c1];simp only[cond_false];have f2:=ybr x.Light (zjb x.Mark (n-(x.Name.length:Int))) (by omega) (by omega) b2;by_cases c2:zdc x.Light (zjb x.Mark (n-(x.Name.length:Int)))<0
 ·rw[decide_eq_true c2];exact⟨by simp,by simpa using h0,fun h=>absurd (by simp) h⟩
 rw[decide_eq_false c2];simp only[cond_false];have f3:=yzw x.Sectors (zdc x.Light (zjb x.Mark (n-(x.Name.length:Int)))) (by omega) (by omega) b3.1 b3.2;by_cases c3:zz x.Sectors (zdc x.Light (zjb x.Mark (n-(x.Name.length:Int))))<0
 ·rw[decide_eq_true c3];exact⟨by simp,by simpa using h0,fun h=>absurd (by simp) h⟩
 rw[decide_eq_false c3];simp only[cond_false];exact⟨by omega,by omega,fun _=>⟨by omega,f1.2.2 c1,f2.2.2 c2,f3.2.2 c3⟩⟩
def yvn (a0:(List Aid)) (a1:Int) (i1:Nat) (s1:Int):Except (Int) (Int):=
 (bif decide ((zqc (a0.getD i1 default) s1)<0)then .error (-1)else .ok (zqc (a0.getD i1 default) s1))
def zt (a0:(List Aid)) (a1:Int):Int:=
 (bif decide ((IntKind.wrap .i64 (a1-(a0.length:Int)))<0)then(-1)else(match yf (yvn a0 a1) (a0.length-0) 0 (IntKind.wrap .i64 (a1-(a0.length:Int)))with|.error e=>e|.ok s1=>s1))
namespace N23
theorem DD:DOk Tryz.prog (Go.Ab.DD [(17,dP D_zqc)]):=ya yvw.e <| yc _
theorem dn:type_of% (@D_zqc.eq_1):=by and_intros<;>intros<;>rfl
theorem den (a0:(List Aid)) (a1:Int)  : Den Tryz.prog 23 [encL 16 eAid a0,.int .i64 a1] (.int .i64 (zt a0 a1)):=by
 generalize hR:zt a0 a1=r;unfold zt at hR;refine di Tryz.func23 Tryz.ntmps23 Tryz.results23 ?_;intro c hL hc hk;obtain⟨hL0,hL1,_⟩:=hL;have hw0:a0.length<9223372036854775808:=Nat.lt_succ_of_le (ye hL0).1;have hw1:∀ v∈a0,bwAid v:=fun v hv=>y9 v ((ye hL0).2 v hv)
 clear hL0 hL1;simp only[pars,Nat.zero_add];iterate 3 refine rS ?_
 refine AWP.cond rfl (fun hb => ?_) (fun hb => ?_)
 ·replace hR:=ct hR
  refine rS ?_;refine AWP.ret ?_;subst hR;exact es
 ·replace hR:=cf hR
  refine rS ?_;refine AWP.block ?_;generalize hz1:yf (yvn a0 a1) (a0.length-0) 0 (IntKind.wrap .i64 (a1-(a0.length:Int)))=z1 at hR;refine AWP.range (yvn a0 a1) (fun i1 s1=>⟨[(0,encL 16 eAid a0),(1,.int .i64 s1),(5,.int .i64 (i1:Int))],[]⟩) (fun i1 s1=>True) (a0.length) 0 (IntKind.wrap .i64 (a1-(a0.length:Int))) [] hz1 ot wt sm ?_;clear hz1;intro i1 s1 hi1 hW1 hz1;refine rS ?_;refine AWP.cond rfl (fun hb => ?_) (fun hb => ?_)
  ·have hlt1:i1<a0.length:=ot
   rw[yk hlt1]at hz1;simp only[yvn]at hz1;iterate 2 refine rS ?_
   refine AWP.cond rfl (fun hb => ?_) (fun hb => ?_)
   ·simp only[hb,cond_true]at hz1
    refine rS ?_;refine AWP.ret ?_;subst hz1;dsimp only at hR;subst hR;exact es
   ·simp only[hb,cond_false]at hz1
    refine rS ?_;exact⟨_,[],hlt1,wt,hz1,sm⟩
  ·obtain rfl:i1=a0.length:=ot
   rw[yj (Nat.le_refl _)]at hz1;subst hz1;dsimp only at hR;refine AWP.exit ?_;refine yb ?_;refine rS ?_;refine AWP.ret ?_;subst hR;exact es
end N23
def D_zt : DF
 | [x0,x1]=>some (.int .i64 (zt (rdL dAid x0) (rdI x1)),false,[wL 16 eAid dAid x0,wI .i64 x1])
 | _=>none
theorem yry:OkD Tryz.prog 23 D_zt:=by unfold D_zt;exact dk N23.den
theorem yop (a:List Aid) (n:Int) (h0 : -1<=n) (h1:n<=1048576) (hl:a.length<9223372036854775808) (hx:∀ v∈a,bwAid v) :
  -1<=zt a n/\zt a n<=n/\(¬ zt a n<0->a.length<=1048576/\∀ v∈a,y5r v):=by
 unfold zt;rw[show IntKind.wrap .i64 (n-(a.length:Int))=n-a.length from by rw[IntKind.wrap_i64];omega];by_cases c:n-(a.length:Int)<0
 ·rw[decide_eq_true c];exact⟨by simp,by simpa using h0,fun h=>absurd (by simp) h⟩
 ·rw[decide_eq_false c]
  simp only[cond_false];split
  ·rename_i e h
   obtain⟨j,t,_,_,h3⟩:=yzc h;simp only[yvn]at h3
   have:e = -1:=by
    cases hq:decide (zqc (a.getD j default) t<0)with
    | true=>rw[hq]at h3;simpa using h3.symm
    | false=>rw[hq]at h3;simp at h3
   omega
  ·rename_i s h
   have:=yjh (b:=yvn a n) (fun i s => -1<=s/\s<=n-a.length/\∀ j,j<i->y5r (a.getD j default)) ⟨by omega,by omega,by intro j hj;omega⟩ (by
    intro j u v h1 h2 ⟨h3,h4,h5⟩ h6;simp only[yvn]at h6;have hb:bwAid (a.getD j default):=yze hx (by decide) j;have hf:=yzr (a.getD j default) u h3 (by omega) hb
    cases hq:decide (zqc (a.getD j default) u<0)with
    | true=>rw[hq]at h6;simp at h6
    | false=>
     rw[hq]at h6;simp only[cond_false,Except.ok.injEq]at h6;subst h6;refine⟨by omega,by omega,fun q hq2 => ?_⟩;by_cases hqj:q=j
     ·subst hqj;exact hf.2.2 (of_decide_eq_false hq)
     ·exact h5 q (by omega)) h
   refine⟨by omega,by omega,fun _=>⟨by omega,fun v hv => ?_⟩⟩;obtain⟨i,hi,rfl⟩:=List.getElem_of_mem hv;have:=this.2.2 i (by omega);simpa [List.getD_eq_getElem?_getD,hi]using this
def zgb (a0:Danger) (a1:Int):Int:=
 (bif decide ((IntKind.wrap .i64 (a1-(a0.Name.length:Int)))<0)then(-1)else IntKind.wrap .i64 (a1-(a0.Name.length:Int)))
namespace N22
theorem DD:DOk Tryz.prog (Go.Ab.DD []):=yc _
theorem den (a0:Danger) (a1:Int)  : Den Tryz.prog 22 [.agg (eDanger a0),.int .i64 a1] (.int .i64 (zgb a0 a1)):=by
 generalize hR:zgb a0 a1=r;unfold zgb at hR;refine di Tryz.func22 Tryz.ntmps22 Tryz.results22 ?_;intro c hL hc hk;obtain⟨hL0,hL1,_⟩:=hL;have hw0:bwDanger a0:=y8 a0 hL0;clear hL0 hL1;simp only[pars,Nat.zero_add];iterate 3 refine rS ?_
 refine AWP.cond rfl (fun hb => ?_) (fun hb => ?_)
 ·replace hR:=ct hR
  refine rS ?_;refine AWP.ret ?_;subst hR;exact es
 ·replace hR:=cf hR
  refine rS ?_;refine AWP.ret ?_;subst hR;exact es
end N22
def D_zgb : DF
 | [x0,x1]=>some (.int .i64 (zgb (rdG yy x0) (rdI x1)),false,[wG eDanger yy x0,wI .i64 x1])
 | _=>none
theorem yst:OkD Tryz.prog 22 D_zgb:=by unfold D_zgb;exact dk N22.den
theorem ywm (x:Danger) (n:Int) (h0 : -1<=n) (h1:n<=1048576) (hx:bwDanger x) : -1<=zgb x n/\zgb x n<=n/\(¬ zgb x n<0->y7j x):=by
 have b0:=hx;unfold zgb;have b0':x.Name.length<9223372036854775808:=b0;rw[show IntKind.wrap .i64 (n-(x.Name.length:Int))=n-(x.Name.length:Int)from by rw[IntKind.wrap_i64];omega];by_cases c0:n-(x.Name.length:Int)<0
 ·rw[decide_eq_true c0];exact⟨by simp,by simpa using h0,fun h=>absurd (by simp) h⟩
 rw[decide_eq_false c0];simp only[cond_false];exact⟨by omega,by omega,fun _=>(show x.Name.length<=1048576 by omega)⟩
def yek (a0:Danger) (a1:(List Aid)) (a2:Int) (s1:List Int×Int):Except (Sum (((List Int)×Int)) (List Int×Int)) (List Int×Int):=
 (bif decide (s1.2<=6)then(bif (zpb a1 s1.2 a0 a2)then .ok (s1.1++([s1.2]:List Int),IntKind.wrap .i64 (s1.2+1))else .ok (s1.1,IntKind.wrap .i64 (s1.2+1)))else .error (.inr (s1.1,s1.2)))
def zl (a0:Danger) (a1:(List Aid)) (a2:Int):((List Int)×Int):=
 (bif ((!(zue a0)) || (!(zrb a1)))then([],1)else(bif (!(zjf a2))then([],2)else(match yfc (yek a0 a1 a2) (((7-(3:Int)).toNat)+1) (([]:List Int),3)with|.error (.inl e)=>e|.error (.inr s1)=>(s1.1,0)|.ok _=>default)))
namespace N15
theorem DD:DOk Tryz.prog (Go.Ab.DD [(47,dP D_zue),(48,dP D_zjf),(59,dP D_zrb),(60,dP D_zpb)]):=ya ybv.e <| ya ybu.e <| ya yfv.e <| ya ycv.e <| yc _
theorem dn:type_of% (And.intro @D_zue.eq_1 <| And.intro @D_zjf.eq_1 <| And.intro @D_zrb.eq_1 <| @D_zpb.eq_1):=by and_intros<;>intros<;>rfl
theorem gr {p:Prop} (h:p:=by(grind [yjr]);first|done|fail):p:=h
theorem den (a0:Danger) (a1:(List Aid)) (a2:Int) (hb0:bdDanger a0) (hb1:a1.length<1099511627776) (hb2:∀ v∈a1,bdAid v):Den Tryz.prog 15 [.agg (eDanger a0),encL 16 eAid a1,.int .i64 a2] (.tup [ownL 2 1 yl ((zl a0 a1 a2).1),.int .i64 ((zl a0 a1 a2).2)]):=by
 generalize hR:zl a0 a1 a2=r;unfold zl at hR;refine di Tryz.func15 Tryz.ntmps15 Tryz.results15 ?_;intro c hL hc hk;obtain⟨hL0,hL1,hL2,_⟩:=hL;have hw0:bwDanger a0:=y8 a0 hL0;have hw1:a1.length<9223372036854775808:=Nat.lt_succ_of_le (ye hL1).1;have hw2:∀ v∈a1,bwAid v:=fun v hv=>y9 v ((ye hL1).2 v hv)
 clear hL0 hL1 hL2;simp only[pars,Nat.zero_add];iterate 2 refine rS ?_
 refine AWP.cond rfl (fun hb => ?_) (fun hb => ?_)
 ·replace hR:=ct hR
  refine rS ?_;refine AWP.ret ?_;subst hR;exact es
 ·replace hR:=cf hR
  refine rS ?_;refine AWP.cond rfl (fun hb => ?_) (fun hb => ?_)
  ·replace hR:=ct hR
   refine rS ?_;refine AWP.ret ?_;subst hR;exact es
  ·replace hR:=cf hR
   iterate 2 refine rS ?_
   refine AWP.block ?_;generalize hz1:yfc (yek a0 a1 a2) (((7-(3:Int)).toNat)+1) (([]:List Int),3)=z1 at hR;refine AWP.whileW (yek a0 a1 a2) (fun s1=>⟨[(1,encL 16 eAid a1),(3,.ptr 0 0),(5,.ptr 1 0),(8,.ref 2 1 0 s1.1.length),(9,.ptr 3 0)],[.box [.str a0.Name,.int .i64 a0.At.X,.int .i64 a0.At.Y,.int .i64 a0.Radius],.box [.int .i64 a2],.arr 2 1 s1.1.length (fun j=>yl (s1.1.getD j default)),.box [.int .i64 s1.2]]⟩) (fun s1=>3<=s1.2/\s1.2<=7/\s1.1.length<=(s1.2-3).toNat) (fun s1=>(7-s1.2).toNat) (((7-(3:Int)).toNat)+1) (([]:List Int),3) [0,1,2,3] hz1 m0 wt sm ?_;clear hz1;intro s1 k1 hW1 hm1 hz1;simp only[yek]at hz1;refine rS ?_;refine AWP.cond rfl (fun hb => ?_) (fun hb => ?_)
   ·simp only[hb,cond_true]at hz1
    refine rS ?_;refine AWP.cond rfl (fun hb => ?_) (fun hb => ?_)
    ·simp only[hb,cond_true]at hz1
     iterate 4 refine rS ?_
     exact⟨_,[0,1,5,6],ms,wt,hz1,sm⟩
    ·simp only[hb,cond_false]at hz1
     iterate 3 refine rS ?_
     exact⟨_,[0,1,2,4],ms,wt,hz1,sm⟩
   ·simp only[hb,cond_false]at hz1
    refine AWP.exit ?_;refine yb ?_;subst hz1;dsimp only at hR;refine rS ?_;refine AWP.ret ?_;subst hR;exact es
end N15
def D_zl : DF
 | [x0,x1,x2]=>some (.tup [ownL 2 1 yl ((zl (rdG yy x0) (rdL dAid x1) (rdI x2)).1),.int .i64 ((zl (rdG yy x0) (rdL dAid x1) (rdI x2)).2)],false,[wG eDanger yy x0,wL 16 eAid dAid x1,wI .i64 x2,bdDanger (rdG yy x0),(rdL dAid x1).length<1099511627776,∀ v∈(rdL dAid x1),bdAid v])
 | _=>none
theorem yjy:OkD Tryz.prog 15 D_zl:=by unfold D_zl;exact dk N15.den
def zwb (a0:Danger) (a1:(List Aid)) (a2:Int):((List Int)×Int):=
 (bif ((!(zvd a0)) || (!(zv a1)))then([],1)else(bif (!(zb a2 0 20000))then([],2)else((zoc a0 a1 a2),0)))
namespace N24
theorem DD:DOk Tryz.prog (Go.Ab.DD [(79,dP D_zvd),(80,dP D_zv),(81,dP D_zb),(82,dP D_zoc)]):=ya y6u.e <| ya yaz.e <| ya yxc.e <| ya ygv.e <| yc _
theorem dn:type_of% (And.intro @D_zvd.eq_1 <| And.intro @D_zv.eq_1 <| And.intro @D_zb.eq_1 <| @D_zoc.eq_1):=by and_intros<;>intros<;>rfl
theorem ol:type_of% (@zb.eq_1):=@zb.eq_1
theorem gr {p:Prop} (h:p:=by(grind [yrs]);first|done|fail):p:=h
theorem den (a0:Danger) (a1:(List Aid)) (a2:Int) (hb0:bdDanger a0) (hb1:a1.length<1099511627776) (hb2:∀ v∈a1,bdAid v):Den Tryz.prog 24 [.agg (eDanger a0),encL 16 eAid a1,.int .i64 a2] (.tup [ownL 2 1 yl ((zwb a0 a1 a2).1),.int .i64 ((zwb a0 a1 a2).2)]):=by
 generalize hR:zwb a0 a1 a2=r;unfold zwb at hR;refine di Tryz.func24 Tryz.ntmps24 Tryz.results24 ?_;intro c hL hc hk;obtain⟨hL0,hL1,hL2,_⟩:=hL;have hw0:bwDanger a0:=y8 a0 hL0;have hw1:a1.length<9223372036854775808:=Nat.lt_succ_of_le (ye hL1).1;have hw2:∀ v∈a1,bwAid v:=fun v hv=>y9 v ((ye hL1).2 v hv)
 clear hL0 hL1 hL2;simp only[pars,Nat.zero_add];iterate 2 refine rS ?_
 refine AWP.cond rfl (fun hb => ?_) (fun hb => ?_)
 ·replace hR:=ct hR
  refine rS ?_;refine AWP.ret ?_;subst hR;exact es
 ·replace hR:=cf hR
  refine rS ?_;refine AWP.cond rfl (fun hb => ?_) (fun hb => ?_)
  ·replace hR:=ct hR
   refine rS ?_;refine AWP.ret ?_;subst hR;exact es
  ·replace hR:=cf hR
   refine rS ?_;refine AWP.ret ?_;subst hR;exact es
end N24
def D_zwb : DF
 | [x0,x1,x2]=>some (.tup [ownL 2 1 yl ((zwb (rdG yy x0) (rdL dAid x1) (rdI x2)).1),.int .i64 ((zwb (rdG yy x0) (rdL dAid x1) (rdI x2)).2)],false,[wG eDanger yy x0,wL 16 eAid dAid x1,wI .i64 x2,bdDanger (rdG yy x0),(rdL dAid x1).length<1099511627776,∀ v∈(rdL dAid x1),bdAid v])
 | _=>none
theorem yiu:OkD Tryz.prog 24 D_zwb:=by unfold D_zwb;exact dk N24.den
def zxb (a0:Danger):Danger:=
 { Name:=a0.Name,At:=(zwc a0.At),Radius:=a0.Radius:Danger }
namespace N25
theorem DD:DOk Tryz.prog (Go.Ab.DD [(68,dP D_zwc)]):=ya ykp.e <| yc _
theorem dn:type_of% (@D_zwc.eq_1):=by and_intros<;>intros<;>rfl
theorem den (a0:Danger)  : Den Tryz.prog 25 [.agg (eDanger a0)] (.agg (eDanger (zxb a0))):=by
 generalize hR:zxb a0=r;unfold zxb at hR;refine di Tryz.func25 Tryz.ntmps25 Tryz.results25 ?_;intro c hL hc hk;obtain⟨hL0,_⟩:=hL;have hw0:bwDanger a0:=y8 a0 hL0;clear hL0;simp only[pars,Nat.zero_add];iterate 6 refine rS ?_
 refine AWP.ret ?_;subst hR;exact es
end N25
def D_zxb : DF
 | [x0]=>some (.agg (eDanger (zxb (rdG yy x0))),false,[wG eDanger yy x0])
 | _=>none
theorem ylu:OkD Tryz.prog 25 D_zxb:=by unfold D_zxb;exact dk N25.den
theorem yuh (a:List Aid) (k:Int) (h:k<=9223372036854775807):(zsb a k).1<=9223372036854775807:=by
 unfold zsb
 obtain⟨t,h1,h2⟩:=ybb (b:=y0h a k) (fun _ s=>s.1<=9223372036854775807) (k:=a.length-0) (i:=0) (s:=(k,a)) h (by
  intro j u _ _ h
  exact⟨_,rfl,ydg _⟩)
 rw[h1];exact h2
theorem y2d (a:List Aid) (k:Int):(zsb a k).2.length=a.length:=by
 unfold zsb
 obtain⟨t,h1,h2⟩:=ybb (b:=y0h a k) (fun _ s=>s.2.length=a.length) (k:=a.length-0) (i:=0) (s:=(k,a)) rfl (by
  intro j u _ _ h
  exact⟨_,rfl,by simpa using h⟩)
 rw[h1];exact h2
theorem yog (a:List Aid) (k:Int):subL (zsb a k).2 0 a.length=(zsb a k).2:=by
 rw[<- y2d a k];exact ybf _
def zrf (a0:Danger) (a1:(List Aid)) (a2:Int):Bool:=
 (bif decide ((zgb a0 1048576)<0)then true else(bif decide ((zt a1 (zgb a0 1048576))<0)then true else(bif ((!(zr ((zl (zxb a0) (zh a1) a2).1) ((zwb (zxb a0) (zh a1) a2).1))) || (((zl (zxb a0) (zh a1) a2).2) != ((zwb (zxb a0) (zh a1) a2).2)))then false else(bif (!(zvb (zh a1) (zh a1)))then false else(bif ((decide (((zsb (zh a1) 1).1)<0) || (!(zr ((zl (zxb a0) (zh a1) a2).1) ((zwb (zxb a0) (zh a1) a2).1)))) || (((zl (zxb a0) (zh a1) a2).2) != ((zwb (zxb a0) (zh a1) a2).2)))then false else(bif decide ((zmb ((zd ((zl (zxb a0) (zh a1) a2).1) 1).2) 1)<0)then false else(bif ((zmb ((zd ((zl (zxb a0) (zh a1) a2).1) 1).2) 1) != ((zd ((zl (zxb a0) (zh a1) a2).1) 1).1))then false else true)))))))
namespace N5
theorem DD:DOk Tryz.prog (Go.Ab.DD [(15,dP D_zl),(22,dP D_zgb),(23,dP D_zt),(24,dP D_zwb),(25,dP D_zxb),(26,dP D_zh),(27,dP D_zr),(28,dP D_zvb),(30,dM [true,false] D_zd),(31,dP D_zmb)]):=ya yjy.e <| ya yst.e <| ya yry.e <| ya yiu.e <| ya ylu.e <| ya y8y.e <| ya ykr.e <| ya yhw.e <| ya ypr.e <| ya y3w.e <| yc _
theorem dn:type_of% (And.intro @D_zl.eq_1 <| And.intro @D_zgb.eq_1 <| And.intro @D_zt.eq_1 <| And.intro @D_zwb.eq_1 <| And.intro @D_zxb.eq_1 <| And.intro @D_zh.eq_1 <| And.intro @D_zr.eq_1 <| And.intro @D_zvb.eq_1 <| And.intro @D_zd.eq_1 <| And.intro @D_zmb.eq_1 <| And.intro @yog <| And.intro @yzi <| @yzi):=And.intro @D_zl.eq_1 <| And.intro @D_zgb.eq_1 <| And.intro @D_zt.eq_1 <| And.intro @D_zwb.eq_1 <| And.intro @D_zxb.eq_1 <| And.intro @D_zh.eq_1 <| And.intro @D_zr.eq_1 <| And.intro @D_zvb.eq_1 <| And.intro @D_zd.eq_1 <| And.intro @D_zmb.eq_1 <| And.intro @yog <| And.intro @yzi <| @yzi
theorem ol:type_of% (And.intro @y7x <| And.intro @y2d <| @ywg):=And.intro @y7x <| And.intro @y2d <| @ywg
theorem gr {p:Prop} (h:p:=by(grind [yuh,ywg,ywg]);first|done|fail):p:=h
theorem o1 {p:Prop} (h:p:=by(first|(exact mrg)|(exact yuh _ _ (by exact mrg))|((try simp only[ol]);first|(have h9:=hG0 (by assumption);first|exact h9.2|exact h9.1|omega)|(have h9:=hG1 (by assumption);first|exact h9.2|exact h9.1|omega)));first|done|fail):p:=h
set_option maxHeartbeats 4000000 in
set_option maxRecDepth 20000 in
theorem _root_.Go.Ab.zrf_den (a0:Danger) (a1:(List Aid)) (a2:Int)  : Den Tryz.prog 5 [.agg (eDanger a0),encL 16 eAid a1,.int .i64 a2] (.bool (zrf a0 a1 a2)):=by
 generalize hR:zrf a0 a1 a2=r;unfold zrf at hR;refine y0p G_ok Tryz.func5 (by kernel_rfl) rfl Tryz.ntmps5 (by rw[Tryz.results5]) (by simp) rfl ?_;intro c u hdp hlit hL hc hk;obtain⟨hL0,hL1,hL2,_⟩:=hL;have hw0:bwDanger a0:=y8 a0 hL0;have hw1:a1.length<9223372036854775808:=Nat.lt_succ_of_le (ye hL1).1;have hw2:∀ v∈a1,bwAid v:=fun v hv=>y9 v ((ye hL1).2 v hv)
 clear hL0 hL1 hL2;simp only[litN,lit1,litM,y1q,litR,y6p,encL,sv,Nat.zero_add,Nat.reduceAdd]at hlit;simp only[litN,lit1,litM,y1q,encL,sv,pars,Nat.zero_add,Nat.reduceAdd];have hf0:=ywm a0 (1048576) (by omega) (by omega) hw0;have hf1:=yop a1 (zgb a0 (1048576)) (by omega) (by omega) hw1 hw2;have hG0:decide (zgb a0 (1048576)<0)=false->y7j a0/\bdDanger a0:=fun h=>⟨hf0.2.2 (of_decide_eq_false h),y2n a0 (hf0.2.2 (of_decide_eq_false h))⟩
 have hG1:decide (zt a1 (zgb a0 (1048576))<0)=false->a1.length<=1048576/\∀ x∈a1,bdAid x:=fun h=>⟨(hf1.2.2 (of_decide_eq_false h)).1,fun x hx=>y5w x ((hf1.2.2 (of_decide_eq_false h)).2 x hx)⟩
 iterate 4 refine rS ?_
 refine AWP.cond rfl (fun hb => ?_) (fun hb => ?_)
 ·replace hR:=ct hR
  refine rS ?_;refine AWP.ret ?_;subst hR;exact es
 ·replace hR:=cf hR
  iterate 2 refine rS ?_
  refine AWP.cond rfl (fun hb => ?_) (fun hb => ?_)
  ·replace hR:=ct hR
   refine rS ?_;refine AWP.ret ?_;subst hR;exact es
  ·replace hR:=cf hR
   iterate 4 refine rS ?_
   refine AWP.cond rfl (fun hb => ?_) (fun hb => ?_)
   ·replace hR:=ct hR
    refine rS ?_;refine AWP.ret ?_;subst hR;exact es
   ·replace hR:=cf hR
    refine rS ?_;refine AWP.cond rfl (fun hb => ?_) (fun hb => ?_)
    ·replace hR:=ct hR
     refine rS ?_;refine AWP.ret ?_;subst hR;exact es
    ·replace hR:=cf hR
     refine rS ?_;refine AWP.seq ?_;refine rX 2 (N29.den (zh a1) 1 ot) ?_;refine rS ?_;refine AWP.cond rfl (fun hb => ?_) (fun hb => ?_)
     ·replace hR:=ct hR
      refine rS ?_;refine AWP.ret ?_;subst hR;exact es
     ·replace hR:=cf hR
      iterate 5 refine rS ?_
      refine AWP.cond rfl (fun hb => ?_) (fun hb => ?_)
      ·replace hR:=ct hR
       refine rS ?_;refine AWP.ret ?_;subst hR;exact es
      ·replace hR:=cf hR
       refine rS ?_;refine AWP.cond rfl (fun hb => ?_) (fun hb => ?_)
       ·replace hR:=ct hR
        refine rS ?_;refine AWP.ret ?_;subst hR;exact es
       ·replace hR:=cf hR
        iterate 2 refine rS ?_
        refine AWP.cond rfl (fun hb => ?_) (fun hb => ?_)
        ·exfalso;simp_all
        ·refine rS ?_
         iterate 2 refine rS ?_
         refine AWP.cond rfl (fun hb => ?_) (fun hb => ?_)
         ·exfalso;simp_all
         ·refine rS ?_
          refine AWP.cond rfl (fun hb => ?_) (fun hb => ?_)
          ·exfalso;simp_all
          ·refine rS ?_
           refine AWP.ret ?_;subst hR;exact es
end N5
def ysc (p:Int->Bool):List Int:=[3,4,5,6].filter p
theorem y7s (p:Int->Bool) {k:Int} (h1:3<=k) (h2:k<=6):zhc (ysc p) k=ysc fun x=>p x || x == k:=by
 have hk:k=3\/k=4\/k=5\/k=6:=by omega
 unfold ysc;rcases hk with rfl|rfl|rfl|rfl<;>cases h3:p 3<;>cases h4:p 4<;>cases h5:p 5<;>cases h6:p 6<;>simp only[List.filter,h3,h4,h5,h6,Bool.or_true,Bool.or_false,Bool.true_or,Bool.false_or]<;>decide
theorem y1d {p q:Int->Bool} (h:∀ k,3<=k->k<=6->p k=q k):ysc p=ysc q:=by
 unfold ysc;refine List.filter_congr fun x hx => ?_
 simp only[List.mem_cons,List.not_mem_nil,or_false]at hx;exact h x (by omega) (by omega)
def y3l (d:Danger) (l:List Aid) (w:Int) (k:Int):Bool:=l.any fun a=>(a.Mark.Kind == k) && zfd d a w
theorem ykq {d:Danger} {a:Aid} {w:Int} (h:zfd d a w=true):3<=a.Mark.Kind/\a.Mark.Kind<=6:=by
 unfold zfd at h
 cases hk:zb a.Mark.Kind 3 6 with
 | false=>rw[hk]at h;cases h
 | true=>unfold zb at hk;simp at hk;omega
theorem yln (d:Danger) (l:List Aid) (w:Int):zoc d l w=ysc (y3l d l w):=by
 unfold zoc
 obtain⟨t,h1,h2⟩:=ybb (b:=yvi d l w) (fun j s=>s=ysc (y3l d (l.take j) w)) (k:=l.length-0) (i:=0) (s:=[]) (by
  rw[List.take_zero];rfl) (by
  rintro j _ _ hj rfl
  unfold yvi;have hj:j<l.length:=by omega
  have ht:=ypi l j hj
  cases hm:zfd d (l.getD j default) w with
  | false=>
   refine⟨_,rfl,?_⟩;rw[ht];refine y1d fun k _ _ => ?_
   unfold y3l;rw[List.any_append,List.any_cons,List.any_nil,hm,Bool.and_false,Bool.or_false,Bool.or_false]
  | true=>
   have hk:=ykq hm;refine⟨_,rfl,?_⟩;rw[y7s _ hk.1 hk.2,ht];refine y1d fun k _ _ => ?_
   unfold y3l
   rw[List.any_append,List.any_cons,List.any_nil,hm,Bool.and_true,Bool.or_false,Bool.beq_comm (a:=k)])
 rw[h1];simp only at h2 ⊢;rw[h2,show 0+(l.length-0)=l.length by omega,List.take_length]
theorem y2j (l:List Aid) (k:Int) (d:Danger) (w:Int):zpb l k d w=l.any fun a=>zsd a k d w:=by
 unfold zpb zgc;rw[<- yoi (fun a=>zsd a k d w) l];rcases ytd (b:=y4k l k d w) (fun j=>zsd (l.getD j default) k d w) (fun j=>(j:Int)) (k:=l.length-0) (i:=0) (s:=()) (fun j u _ _=>rfl)with⟨j,_,h2,h3,_,h5⟩|⟨h1,h2⟩
 ·rw[h5]
  simp only;rw[decide_eq_true (show(0:Int)<=(j:Int)by omega)];exact(List.any_eq_true.2 ⟨j,List.mem_range.2 (by omega),h3⟩).symm
 ·rw[h2]
  simp only;rw[decide_eq_false (by decide)];symm
  rw[List.any_eq_false];intro j hj;rw[List.mem_range]at hj;rw[h1 j (by omega) (by omega)];decide
theorem yzq (d:Danger) (l:List Aid) (w:Int):yfc (yek d l w) (((7-(3:Int)).toNat)+1) (([]:List Int),3)=.error (.inr (ysc (fun k=>zpb l k d w),7)):=by
 have st:∀ (o:List Int) (k m:Int),k<=6->3<=k->m=k+1->yek d l w (o,k)=.ok (o++(bif zpb l k d w then[k]else[]),m):=fun o k m h1 h2 h3=>by
  subst h3;unfold yek;simp only;rw[decide_eq_true h1,cond_true,show IntKind.wrap .i64 (k+1)=k+1 by rw[IntKind.wrap_i64];omega]
  cases zpb l k d w with
  | true=>rfl
  | false=>rw[cond_false,cond_false,List.append_nil]
 have en:∀ o:List Int,yek d l w (o,7)=.error (.inr (o,7)):=fun o=>rfl
 show yfc (yek d l w) 5 ([],3)=_;simp only[yfc,fun o=>st o 3 4 (by decide) (by decide) (by decide),fun o=>st o 4 5 (by decide) (by decide) (by decide),fun o=>st o 5 6 (by decide) (by decide) (by decide),fun o=>st o 6 7 (by decide) (by decide) (by decide),en];unfold ysc;cases h3:zpb l 3 d w<;>cases h4:zpb l 4 d w<;>cases h5:zpb l 5 d w<;>cases h6:zpb l 6 d w<;>simp[List.filter,h3,h4,h5,h6]
theorem yqz {a:Aid} (h:zad a=true):zlb a.At=true:=by
 cases ho:zlb a.At with
 | true=>rfl
 | false=>
  exfalso;unfold zad at h;rw[ho]at h;simp at h
theorem ygs (p:Int->Bool):(ysc p).length<=4:=List.length_filter_le _ _
theorem y1s {α:Type} {l:List α} {p q:α->Bool} (h:∀ a∈l,p a=q a):l.any p=l.any q:=by
 induction l with
 | nil=>rfl
 | cons a l ih=>
  rw[List.any_cons,List.any_cons,h a (List.mem_cons_self ..),ih fun b hb=>h b (List.mem_cons_of_mem _ hb)]
theorem y6y {l:List Aid} (h:zv l=true) (a:Aid) (ha:a∈l):zad a=true:=((y7y l).1 h).1 a ha
theorem y5z (d:Danger) (l:List Aid) (w:Int) (hl:∀ v∈l,aidL v):zl d l w=zwb d l w/\(zwb d l w).1.length<=4:=by
 unfold zl zwb;rw[y0k l (fun v h=>hl v h)]
 have e1:zue d=zvd d:=by
  unfold zue zvd;rw[y4r];rfl
 have e2:zjf w=zb w 0 20000:=rfl;rw[e1,e2]
 cases h1:zvd d with
 | false=>exact⟨rfl,by simp⟩
 | true=>
  cases h2:zv l with
  | false=>exact⟨rfl,by simp⟩
  | true=>
   simp only[Bool.not_true,Bool.or_false,cond_false]
   cases zb w 0 20000 with
   | false=>exact⟨rfl,by simp⟩
   | true=>
    simp only[Bool.not_true,cond_false];rw[yzq,yln];refine⟨?_,ygs _⟩;simp only;congr 1
    refine y1d fun k _ _ => ?_
    rw[y2j];unfold y3l;refine y1s fun a ha => ?_
    unfold zsd;unfold zvd at h1;rw[Bool.and_eq_true,Bool.and_eq_true]at h1;have hr:1<=d.Radius:=by have:=h1.2;unfold zb at this;simp at this;omega
    rw[ylw (yys h1.1.2) (yys (yqz (y6y h2 a ha))) hr]
theorem yfh (a0:Danger) (a1:List Aid) (a2:Int) (hb0:bwDanger a0) (hl1:a1.length<9223372036854775808) (hv1:∀ v∈a1,bwAid v):zrf a0 a1 a2=true:=by
 unfold zrf;have f0:=ywm a0 1048576 (by omega) (by omega) hb0;by_cases c0:zgb a0 1048576<0
 ·rw[decide_eq_true c0];rfl
 rw[decide_eq_false c0];simp only[cond_false];have f1:=yop a1 (zgb a0 1048576) (by omega) (by omega) hl1 hv1;by_cases c1:zt a1 (zgb a0 1048576)<0
 ·rw[decide_eq_true c1];rfl
 rw[decide_eq_false c1];simp only[cond_false];obtain⟨k0,k1⟩:=f1.2.2 c1;have hp1:∀ v∈a1,aidP v:=fun v h=>y8x (hv1 v h) (k1 v h)
 simp only[y7x,yhx,ygy];have ed:zxb a0=a0:=rfl;rw[ed];obtain⟨e1,e2⟩:=y5z a0 a1 a2 (fun v h=>(hp1 v h).1);rw[e1];have hm:=yyv (zwb a0 a1 a2).1 1 (by omega) (by omega) (by omega);have hm2:=zd_k (zwb a0 a1 a2).1 1 (by omega) (by omega) (by omega);have hk2:=yrk a1 1 (fun v h=>(hp1 v h).2) k0 (by omega) (by omega);rw[hm.1,decide_eq_false (show ¬ (zd (zwb a0 a1 a2).1 1).1<0 by omega),decide_eq_false (show ¬ (zsb a1 1).1<0 by omega)];simp
end Go.Ab
