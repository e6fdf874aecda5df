/- A part of a proof: walks of functions and lemmas of our own. No conditions. -/
import Derived.Test.YtijmcongeemehaaGreatDoorEAl
import Derived.Test.YtijmcongeemehaaGreatDoorEBe
import Derived.Test.YtijmcongeemehaaGreatDoorEAi
import Derived.Test.YtijmcongeemehaaGreatDoorEAp
import Derived.Test.YtijmcongeemehaaGreatDoorEAq
import Derived.Test.YtijmcongeemehaaGreatDoorEBf
import Derived.Test.YtijmcongeemehaaGreatDoorEAn
set_option linter.unusedSectionVars false
set_option linter.unusedVariables false
set_option linter.unusedSimpArgs false
set_option maxHeartbeats 1000000
namespace Go.Ab
open Go Go.Proofs
def zqf (a0:Point) (a1:Point):Bool:=
 (bif (a0.X != a1.X)then false else(bif (a0.Y != a1.Y)then false else true))
namespace N67
theorem DD:DOk Tryz.prog (Go.Ab.DD []):=ye _
theorem den (a0:Point) (a1:Point)  : Den Tryz.prog 67 [.agg (ygd a0),.agg (ygd a1)] (.bool (zqf a0 a1)):=by
 generalize hR:zqf a0 a1=r;unfold zqf at hR;refine di Tryz.func67 Tryz.ntmps67 Tryz.results67 ?_;intro c hL hc hk;clear hL;simp only[pars,Nat.zero_add];iterate 2 refine rS ?_
 refine AWP.cond rfl (fun hb => ?_) (fun hb => ?_)
 ·replace hR:=ct hR
  refine rS ?_;refine AWP.ret ?_;subst hR;exact es
 ·replace hR:=cf hR
  refine rS ?_;refine AWP.cond rfl (fun hb => ?_) (fun hb => ?_)
  ·replace hR:=ct hR
   refine rS ?_;refine AWP.ret ?_;subst hR;exact es
  ·replace hR:=cf hR
   refine rS ?_;refine AWP.ret ?_;subst hR;exact es
end N67
def D_zqf : DF
 | [x0,x1]=>some (.bool (zqf (rdG ydf x0) (rdG ydf x1)),false,[wG ygd ydf x0,wG ygd ydf x1])
 | _=>none
theorem yd2:OkD Tryz.prog 67 D_zqf:=by unfold D_zqf;exact dk N67.den
def zrf (a0:Mark) (a1:Mark):Bool:=
 (bif (a0.Kind != a1.Kind)then false else(bif (a0.Colors != a1.Colors)then false else(bif (a0.Shape != a1.Shape)then false else(bif (a0.Topmark != a1.Topmark)then false else true))))
namespace N68
theorem DD:DOk Tryz.prog (Go.Ab.DD []):=ye _
theorem den (a0:Mark) (a1:Mark)  : Den Tryz.prog 68 [.agg (ykd a0),.agg (ykd a1)] (.bool (zrf a0 a1)):=by
 generalize hR:zrf a0 a1=r;unfold zrf at hR;refine di Tryz.func68 Tryz.ntmps68 Tryz.results68 ?_;intro c hL hc hk;obtain⟨hL0,hL1,_⟩:=hL;have hw0:bwMark a0:=ywd a0 hL0;have hw1:bwMark a1:=ywd a1 hL1;clear hL0 hL1;simp only[pars,Nat.zero_add];iterate 2 refine rS ?_
 refine AWP.cond rfl (fun hb => ?_) (fun hb => ?_)
 ·replace hR:=ct hR
  refine rS ?_;refine AWP.ret ?_;subst hR;exact es
 ·replace hR:=cf hR
  refine rS ?_;refine AWP.cond rfl (fun hb => ?_) (fun hb => ?_)
  ·replace hR:=ct hR
   refine rS ?_;refine AWP.ret ?_;subst hR;exact es
  ·replace hR:=cf hR
   refine rS ?_;refine AWP.cond rfl (fun hb => ?_) (fun hb => ?_)
   ·replace hR:=ct hR
    refine rS ?_;refine AWP.ret ?_;subst hR;exact es
   ·replace hR:=cf hR
    refine rS ?_;refine AWP.cond rfl (fun hb => ?_) (fun hb => ?_)
    ·replace hR:=ct hR
     refine rS ?_;refine AWP.ret ?_;subst hR;exact es
    ·replace hR:=cf hR
     refine rS ?_;refine AWP.ret ?_;subst hR;exact es
end N68
def D_zrf : DF
 | [x0,x1]=>some (.bool (zrf (rdG ype x0) (rdG ype x1)),false,[wG ykd ype x0,wG ykd ype x1])
 | _=>none
theorem y71:OkD Tryz.prog 68 D_zrf:=by unfold D_zrf;exact dk N68.den
def zsf (a0:Sector) (a1:Sector):Bool:=
 (bif (a0.From != a1.From)then false else(bif (a0.To != a1.To)then false else(bif (a0.Color != a1.Color)then false else true)))
namespace N149
theorem DD:DOk Tryz.prog (Go.Ab.DD []):=ye _
theorem den (a0:Sector) (a1:Sector)  : Den Tryz.prog 149 [.agg (ym a0),.agg (ym a1)] (.bool (zsf a0 a1)):=by
 generalize hR:zsf a0 a1=r;unfold zsf at hR;refine di Tryz.func149 Tryz.ntmps149 Tryz.results149 ?_;intro c hL hc hk;obtain⟨hL0,hL1,_⟩:=hL;have hw0:bwSector a0:=yx a0 hL0;have hw1:bwSector a1:=yx a1 hL1;clear hL0 hL1;simp only[pars,Nat.zero_add];iterate 2 refine rS ?_
 refine AWP.cond rfl (fun hb => ?_) (fun hb => ?_)
 ·replace hR:=ct hR
  refine rS ?_;refine AWP.ret ?_;subst hR;exact es
 ·replace hR:=cf hR
  refine rS ?_;refine AWP.cond rfl (fun hb => ?_) (fun hb => ?_)
  ·replace hR:=ct hR
   refine rS ?_;refine AWP.ret ?_;subst hR;exact es
  ·replace hR:=cf hR
   refine rS ?_;refine AWP.cond rfl (fun hb => ?_) (fun hb => ?_)
   ·replace hR:=ct hR
    refine rS ?_;refine AWP.ret ?_;subst hR;exact es
   ·replace hR:=cf hR
    refine rS ?_;refine AWP.ret ?_;subst hR;exact es
end N149
def D_zsf : DF
 | [x0,x1]=>some (.bool (zsf (rdG yq x0) (rdG yq x1)),false,[wG ym yq x0,wG ym yq x1])
 | _=>none
theorem yt1:OkD Tryz.prog 149 D_zsf:=by unfold D_zsf;exact dk N149.den
def ybn (a0:(List Sector)) (a1:(List Sector)) (i1:Nat) (s1:Unit):Except (Bool) (Unit):=
 (bif (!(zsf (a0.getD i1 default) (a1.getD i1 default)))then .error false else .ok ())
def zud (a0:(List Sector)) (a1:(List Sector)):Bool:=
 (bif ((a0.length:Int) != (a1.length:Int))then false else(match yd (ybn a0 a1) (a0.length-0) 0 ()with|.error e=>e|.ok s1=>true))
namespace N70
theorem DD:DOk Tryz.prog (Go.Ab.DD [(149,dP D_zsf)]):=ya yt1.e <| ye _
theorem dn:type_of% (@D_zsf.eq_1):=by and_intros<;>intros<;>rfl
theorem den (a0:(List Sector)) (a1:(List Sector))  : Den Tryz.prog 70 [encL 3 ym a0,encL 3 ym a1] (.bool (zud a0 a1)):=by
 generalize hR:zud a0 a1=r;unfold zud at hR;refine di Tryz.func70 Tryz.ntmps70 Tryz.results70 ?_;intro c hL hc hk;obtain⟨hL0,hL1,_⟩:=hL;have hw0:a0.length<9223372036854775808:=Nat.lt_succ_of_le (yj hL0).1;have hw1:∀ v∈a0,bwSector v:=fun v hv=>yx v ((yj hL0).2 v hv)
 have hw2:a1.length<9223372036854775808:=Nat.lt_succ_of_le (yj hL1).1;have hw3:∀ v∈a1,bwSector v:=fun v hv=>yx v ((yj hL1).2 v hv)
 clear hL0 hL1;simp only[pars,Nat.zero_add];iterate 2 refine rS ?_
 refine AWP.cond rfl (fun hb => ?_) (fun hb => ?_)
 ·replace hR:=ct hR
  refine rS ?_;refine AWP.ret ?_;subst hR;exact es
 ·replace hR:=cf hR
  refine rS ?_;refine AWP.block ?_;generalize hz1:yd (ybn a0 a1) (a0.length-0) 0 ()=z1 at hR;refine AWP.range (ybn a0 a1) (fun i1 s1=>⟨[(0,encL 3 ym a0),(1,encL 3 ym a1),(5,.int .i64 (i1:Int))],[]⟩) (fun i1 s1=>True) (a0.length) 0 () [] hz1 ot wt sm ?_;clear hz1;intro i1 s1 hi1 hW1 hz1;refine rS ?_;refine AWP.cond rfl (fun hb => ?_) (fun hb => ?_)
  ·have hlt1:i1<a0.length:=ot
   rw[yg hlt1]at hz1;simp only[ybn]at hz1;refine rD 8 ?_;refine AWP.cond rfl (fun hb => ?_) (fun hb => ?_)
   ·simp only[hb,cond_true]at hz1
    refine rS ?_;refine AWP.ret ?_;subst hz1;dsimp only at hR;subst hR;exact es
   ·simp only[hb,cond_false]at hz1
    refine rS ?_;exact⟨_,[],hlt1,wt,hz1,sm⟩
  ·obtain rfl:i1=a0.length:=ot
   rw[yh (Nat.le_refl _)]at hz1;subst hz1;dsimp only at hR;refine AWP.exit ?_;refine yb ?_;refine rS ?_;refine AWP.ret ?_;subst hR;exact es
end N70
def D_zud : DF
 | [x0,x1]=>some (.bool (zud (rdL yq x0) (rdL yq x1)),false,[wL 3 ym yq x0,wL 3 ym yq x1])
 | _=>none
theorem ye2:OkD Tryz.prog 70 D_zud:=by unfold D_zud;exact dk N70.den
def ztf (a0:Aid) (a1:Aid):Bool:=
 (bif (a0.Number != a1.Number)then false else(bif (a0.Name != a1.Name)then false else(bif (!(zqf a0.At a1.At))then false else(bif (a0.Height != a1.Height)then false else(bif (!(zrf a0.Mark a1.Mark))then false else(bif (!(zpf a0.Light a1.Light))then false else(bif (!(zud a0.Sectors a1.Sectors))then false else(bif (a0.Intensity != a1.Intensity)then false else true))))))))
namespace N22
theorem DD:DOk Tryz.prog (Go.Ab.DD [(67,dP D_zqf),(68,dP D_zrf),(69,dP D_zpf),(70,dP D_zud)]):=ya yd2.e <| ya y71.e <| ya y40.e <| ya ye2.e <| ye _
theorem dn:type_of% (And.intro @D_zqf.eq_1 <| And.intro @D_zrf.eq_1 <| And.intro @D_zpf.eq_1 <| @D_zud.eq_1):=by and_intros<;>intros<;>rfl
theorem den (a0:Aid) (a1:Aid)  : Den Tryz.prog 22 [.agg (eAid a0),.agg (eAid a1)] (.bool (ztf a0 a1)):=by
 generalize hR:ztf a0 a1=r;unfold ztf at hR;refine di Tryz.func22 Tryz.ntmps22 Tryz.results22 ?_;intro c hL hc hk;obtain⟨hL0,hL1,_⟩:=hL;have hw0:bwAid a0:=ytc a0 hL0;have hw1:bwAid a1:=ytc a1 hL1;clear hL0 hL1;simp only[pars,Nat.zero_add];iterate 2 refine rS ?_
 refine AWP.cond rfl (fun hb => ?_) (fun hb => ?_)
 ·replace hR:=ct hR
  refine rS ?_;refine AWP.ret ?_;subst hR;exact es
 ·replace hR:=cf hR
  refine rS ?_;refine AWP.cond rfl (fun hb => ?_) (fun hb => ?_)
  ·replace hR:=ct hR
   refine rS ?_;refine AWP.ret ?_;subst hR;exact es
  ·replace hR:=cf hR
   refine rS ?_;refine AWP.cond rfl (fun hb => ?_) (fun hb => ?_)
   ·replace hR:=ct hR
    refine rS ?_;refine AWP.ret ?_;subst hR;exact es
   ·replace hR:=cf hR
    refine rS ?_;refine AWP.cond rfl (fun hb => ?_) (fun hb => ?_)
    ·replace hR:=ct hR
     refine rS ?_;refine AWP.ret ?_;subst hR;exact es
    ·replace hR:=cf hR
     refine rS ?_;refine AWP.cond rfl (fun hb => ?_) (fun hb => ?_)
     ·replace hR:=ct hR
      refine rS ?_;refine AWP.ret ?_;subst hR;exact es
     ·replace hR:=cf hR
      refine rS ?_;refine AWP.cond rfl (fun hb => ?_) (fun hb => ?_)
      ·replace hR:=ct hR
       refine rS ?_;refine AWP.ret ?_;subst hR;exact es
      ·replace hR:=cf hR
       refine rS ?_;refine AWP.cond rfl (fun hb => ?_) (fun hb => ?_)
       ·replace hR:=ct hR
        refine rS ?_;refine AWP.ret ?_;subst hR;exact es
       ·replace hR:=cf hR
        refine rS ?_;refine AWP.cond rfl (fun hb => ?_) (fun hb => ?_)
        ·replace hR:=ct hR
         refine rS ?_;refine AWP.ret ?_;subst hR;exact es
        ·replace hR:=cf hR
         refine rS ?_;refine AWP.ret ?_;subst hR;exact es
end N22
def D_ztf : DF
 | [x0,x1]=>some (.bool (ztf (rdG dAid x0) (rdG dAid x1)),false,[wG eAid dAid x0,wG eAid dAid x1])
 | _=>none
theorem y41:OkD Tryz.prog 22 D_ztf:=by unfold D_ztf;exact dk N22.den
def yln (a0:(List Aid)) (a1:(List Aid)) (i1:Nat) (s1:Unit):Except (Bool) (Unit):=
 (bif (!(ztf (a0.getD i1 default) (a1.getD i1 default)))then .error false else .ok ())
def zvd (a0:(List Aid)) (a1:(List Aid)):Bool:=
 (bif ((a0.length:Int) != (a1.length:Int))then false else(match yd (yln a0 a1) (a0.length-0) 0 ()with|.error e=>e|.ok s1=>true))
namespace N99
theorem DD:DOk Tryz.prog (Go.Ab.DD [(22,dP D_ztf)]):=ya y41.e <| ye _
theorem dn:type_of% (@D_ztf.eq_1):=by and_intros<;>intros<;>rfl
theorem den (a0:(List Aid)) (a1:(List Aid))  : Den Tryz.prog 99 [encL 16 eAid a0,encL 16 eAid a1] (.bool (zvd a0 a1)):=by
 generalize hR:zvd a0 a1=r;unfold zvd at hR;refine di Tryz.func99 Tryz.ntmps99 Tryz.results99 ?_;intro c hL hc hk;obtain⟨hL0,hL1,_⟩:=hL;have hw0:a0.length<9223372036854775808:=Nat.lt_succ_of_le (yj hL0).1;have hw1:∀ v∈a0,bwAid v:=fun v hv=>ytc v ((yj hL0).2 v hv)
 have hw2:a1.length<9223372036854775808:=Nat.lt_succ_of_le (yj hL1).1;have hw3:∀ v∈a1,bwAid v:=fun v hv=>ytc v ((yj hL1).2 v hv)
 clear hL0 hL1;simp only[pars,Nat.zero_add];iterate 2 refine rS ?_
 refine AWP.cond rfl (fun hb => ?_) (fun hb => ?_)
 ·replace hR:=ct hR
  refine rS ?_;refine AWP.ret ?_;subst hR;exact es
 ·replace hR:=cf hR
  refine rS ?_;refine AWP.block ?_;generalize hz1:yd (yln a0 a1) (a0.length-0) 0 ()=z1 at hR;refine AWP.range (yln a0 a1) (fun i1 s1=>⟨[(0,encL 16 eAid a0),(1,encL 16 eAid a1),(5,.int .i64 (i1:Int))],[]⟩) (fun i1 s1=>True) (a0.length) 0 () [] hz1 ot wt sm ?_;clear hz1;intro i1 s1 hi1 hW1 hz1;refine rS ?_;refine AWP.cond rfl (fun hb => ?_) (fun hb => ?_)
  ·have hlt1:i1<a0.length:=ot
   rw[yg hlt1]at hz1;simp only[yln]at hz1;refine rD 8 ?_;refine AWP.cond rfl (fun hb => ?_) (fun hb => ?_)
   ·simp only[hb,cond_true]at hz1
    refine rS ?_;refine AWP.ret ?_;subst hz1;dsimp only at hR;subst hR;exact es
   ·simp only[hb,cond_false]at hz1
    refine rS ?_;exact⟨_,[],hlt1,wt,hz1,sm⟩
  ·obtain rfl:i1=a0.length:=ot
   rw[yh (Nat.le_refl _)]at hz1;subst hz1;dsimp only at hR;refine AWP.exit ?_;refine yb ?_;refine rS ?_;refine AWP.ret ?_;subst hR;exact es
end N99
def D_zvd : DF
 | [x0,x1]=>some (.bool (zvd (rdL dAid x0) (rdL dAid x1)),false,[wL 16 eAid dAid x0,wL 16 eAid dAid x1])
 | _=>none
theorem yv1:OkD Tryz.prog 99 D_zvd:=by unfold D_zvd;exact dk N99.den
def zgf (a0:Edition) (a1:Edition):Bool:=
 (bif (a0.Number != a1.Number)then false else(bif (a0.Day != a1.Day)then false else(bif (!(zvd a0.Aids a1.Aids))then false else true)))
namespace N35
theorem DD:DOk Tryz.prog (Go.Ab.DD [(99,dP D_zvd)]):=ya yv1.e <| ye _
theorem dn:type_of% (@D_zvd.eq_1):=by and_intros<;>intros<;>rfl
theorem den (a0:Edition) (a1:Edition)  : Den Tryz.prog 35 [.agg (yid a0),.agg (yid a1)] (.bool (zgf a0 a1)):=by
 generalize hR:zgf a0 a1=r;unfold zgf at hR;refine di Tryz.func35 Tryz.ntmps35 Tryz.results35 ?_;intro c hL hc hk;obtain⟨hL0,hL1,_⟩:=hL;have hw0:bwEdition a0:=yxf a0 hL0;have hw1:bwEdition a1:=yxf a1 hL1;clear hL0 hL1;simp only[pars,Nat.zero_add];iterate 2 refine rS ?_
 refine AWP.cond rfl (fun hb => ?_) (fun hb => ?_)
 ·replace hR:=ct hR
  refine rS ?_;refine AWP.ret ?_;subst hR;exact es
 ·replace hR:=cf hR
  refine rS ?_;refine AWP.cond rfl (fun hb => ?_) (fun hb => ?_)
  ·replace hR:=ct hR
   refine rS ?_;refine AWP.ret ?_;subst hR;exact es
  ·replace hR:=cf hR
   refine rS ?_;refine AWP.cond rfl (fun hb => ?_) (fun hb => ?_)
   ·replace hR:=ct hR
    refine rS ?_;refine AWP.ret ?_;subst hR;exact es
   ·replace hR:=cf hR
    refine rS ?_;refine AWP.ret ?_;subst hR;exact es
end N35
def D_zgf : DF
 | [x0,x1]=>some (.bool (zgf (rdG y6d x0) (rdG y6d x1)),false,[wG yid y6d x0,wG yid y6d x1])
 | _=>none
theorem yx2:OkD Tryz.prog 35 D_zgf:=by unfold D_zgf;exact dk N35.den
theorem yi7 (a b:Point):zqf a b=decide (a=b):=by
 unfold zqf;skip
 by_cases h:a=b
 ·subst h;simp
 ·rw[decide_eq_false h]
  cases a;cases b
  simp only[Point.mk.injEq]at h;simp only[bne_iff_ne,Bool.cond_eq_ite,ite_eq_right_iff]
  (repeat' split)<;>simp_all
theorem yu7 (a b:Mark):zrf a b=decide (a=b):=by
 unfold zrf;skip
 by_cases h:a=b
 ·subst h;simp
 ·rw[decide_eq_false h]
  cases a;cases b
  simp only[Mark.mk.injEq]at h;simp only[bne_iff_ne,Bool.cond_eq_ite,ite_eq_right_iff]
  (repeat' split)<;>simp_all
theorem yc7 (a b:List Int):ztd a b=decide (a=b):=by
 unfold ztd;by_cases hl:a.length=b.length
 ·have h1:((a.length:Int) != (b.length:Int))=false:=by simp[hl]
  rw[h1,cond_false,y8c (b:=yen a b) (fun j => !decide (a.getD j default=b.getD j default)) false (fun j u _ _=>by simp only[yen,ned])];simp only[Nat.sub_zero,Nat.zero_add];rw[ycq a b hl];by_cases h:a=b<;>simp[h]
 ·have h1:((a.length:Int) != (b.length:Int))=true:=by simp;omega
  have h2:¬ a=b:=fun e=>hl (by rw[e])
  rw[h1,cond_true,decide_eq_false h2]
theorem yh6 (a b:Character):zpf a b=decide (a=b):=by
 unfold zpf;simp only[yc7];by_cases h:a=b
 ·subst h;simp
 ·rw[decide_eq_false h]
  cases a;cases b
  simp only[Character.mk.injEq]at h;simp only[bne_iff_ne,Bool.cond_eq_ite,ite_eq_right_iff]
  (repeat' split)<;>simp_all
theorem y85 (a b:Sector):zsf a b=decide (a=b):=by
 unfold zsf;skip
 by_cases h:a=b
 ·subst h;simp
 ·rw[decide_eq_false h]
  cases a;cases b
  simp only[Sector.mk.injEq]at h;simp only[bne_iff_ne,Bool.cond_eq_ite,ite_eq_right_iff]
  (repeat' split)<;>simp_all
theorem yv6 (a b:List Sector):zud a b=decide (a=b):=by
 unfold zud;by_cases hl:a.length=b.length
 ·have h1:((a.length:Int) != (b.length:Int))=false:=by simp[hl]
  rw[h1,cond_false,y8c (b:=ybn a b) (fun j => !decide (a.getD j default=b.getD j default)) false (fun j u _ _=>by simp only[ybn,y85])];simp only[Nat.sub_zero,Nat.zero_add];rw[ycq a b hl];by_cases h:a=b<;>simp[h]
 ·have h1:((a.length:Int) != (b.length:Int))=true:=by simp;omega
  have h2:¬ a=b:=fun e=>hl (by rw[e])
  rw[h1,cond_true,decide_eq_false h2]
theorem yp6 (a b:Aid):ztf a b=decide (a=b):=by
 unfold ztf;simp only[yi7,yu7,yh6,yv6];by_cases h:a=b
 ·subst h;simp
 ·rw[decide_eq_false h]
  cases a;cases b
  simp only[Aid.mk.injEq]at h;simp only[bne_iff_ne,Bool.cond_eq_ite,ite_eq_right_iff]
  (repeat' split)<;>simp_all
theorem yq7 (a b:List Aid):zvd a b=decide (a=b):=by
 unfold zvd;by_cases hl:a.length=b.length
 ·have h1:((a.length:Int) != (b.length:Int))=false:=by simp[hl]
  rw[h1,cond_false,y8c (b:=yln a b) (fun j => !decide (a.getD j default=b.getD j default)) false (fun j u _ _=>by simp only[yln,yp6])];simp only[Nat.sub_zero,Nat.zero_add];rw[ycq a b hl];by_cases h:a=b<;>simp[h]
 ·have h1:((a.length:Int) != (b.length:Int))=true:=by simp;omega
  have h2:¬ a=b:=fun e=>hl (by rw[e])
  rw[h1,cond_true,decide_eq_false h2]
theorem yh7 (a b:Edition):zgf a b=decide (a=b):=by
 unfold zgf;simp only[yq7];by_cases h:a=b
 ·subst h;simp
 ·rw[decide_eq_false h]
  cases a;cases b
  simp only[Edition.mk.injEq]at h;simp only[bne_iff_ne,Bool.cond_eq_ite,ite_eq_right_iff]
  (repeat' split)<;>simp_all
theorem y1g (a:List Aid) (k:Int) (h:k<=9223372036854775807):(zuc a k).1<=9223372036854775807:=by
 unfold zuc
 obtain⟨t,h1,h2⟩:=yw (b:=ybl a k) (fun _ s=>s.1<=9223372036854775807) (k:=a.length-0) (i:=0) (s:=(k,a)) h (by
  intro j u _ _ h
  exact⟨_,rfl,ybe _⟩)
 rw[h1];exact h2
theorem yoc (a:List Aid) (k:Int):(zuc a k).2.length=a.length:=by
 unfold zuc
 obtain⟨t,h1,h2⟩:=yw (b:=ybl a k) (fun _ s=>s.2.length=a.length) (k:=a.length-0) (i:=0) (s:=(k,a)) rfl (by
  intro j u _ _ h
  exact⟨_,rfl,by simpa using h⟩)
 rw[h1];exact h2
theorem y5d (a:List Aid) (k:Int):subL (zuc a k).2 0 a.length=(zuc a k).2:=by
 rw[<- yoc a k];exact y2f _
def zwe (a0:Edition) (a1:Int):Int×Edition:=
 (((zuc a0.Aids a1).1),{ a0 with Aids:=(zuc a0.Aids a1).2 })
namespace N36
theorem DD:DOk Tryz.prog (Go.Ab.DD []):=ye _
theorem dn:type_of% (@y5d):=@y5d
theorem ol:type_of% (@yoc):=@yoc
theorem gr {p:Prop} (h:p:=by(grind [y1g]);first|done|fail):p:=h
theorem den (a0:Edition) (a1:Int) (hp0:a1<=9223372036854775807):DenD Tryz.prog 36 [.agg (yec a0),.int .i64 a1] (.int .i64 ((zwe a0 a1).1)) [(.agg [.any,.any,(ownL 59 16 ybi (((zwe a0 a1).2).Aids))]),.any]:=by
 generalize hR:zwe a0 a1=r;unfold zwe at hR;refine y3m (gb:=[true,false]) G_ok Tryz.func36 (by kernel_rfl) rfl Tryz.ntmps36 (by rw[Tryz.results36]) (by simp) ?_;intro c hdp hL hc hk;obtain⟨hL0,hL1,_⟩:=hL;have hw0:bwEdition a0:=ytn a0 hL0;clear hL0 hL1;simp only[adEL,adE,adRL,adR,ownL,encL,sv,List.nil_append,List.append_nil,List.cons_append,List.length_cons,List.length_nil,pars,Nat.zero_add,Nat.reduceAdd]at hk ⊢;refine rS ?_;refine AWP.seq ?_;refine rX 3 (N100.den a0.Aids a1 ot) ?_;refine rS ?_;refine AWP.ret ?_;subst hR;exact es
end N36
def zuf (a0:Edition) (a1:Int):Int:=
 (bif decide ((znd a0.Aids a1)<0)then(-1)else(znd a0.Aids a1))
namespace N37
theorem DD:DOk Tryz.prog (Go.Ab.DD [(101,dP D_znd)]):=ya y62.e <| ye _
theorem dn:type_of% (And.intro @D_znd.eq_1 <| @y5d):=And.intro @D_znd.eq_1 <| @y5d
theorem ol:type_of% (@yoc):=@yoc
theorem gr {p:Prop} (h:p:=by(grind [y1g]);first|done|fail):p:=h
theorem den (a0:Edition) (a1:Int) (hp0:a1<=9223372036854775807):Den Tryz.prog 37 [.agg (yid a0),.int .i64 a1] (.int .i64 (zuf a0 a1)):=by
 generalize hR:zuf a0 a1=r;unfold zuf at hR;refine di Tryz.func37 Tryz.ntmps37 Tryz.results37 ?_;intro c hL hc hk;obtain⟨hL0,hL1,_⟩:=hL;have hw0:bwEdition a0:=yxf a0 hL0;clear hL0 hL1;simp only[pars,Nat.zero_add];iterate 3 refine rS ?_
 refine AWP.cond rfl (fun hb => ?_) (fun hb => ?_)
 ·replace hR:=ct hR
  refine rS ?_;refine AWP.ret ?_;subst hR;exact es
 ·replace hR:=cf hR
  refine rS ?_;refine AWP.ret ?_;subst hR;exact es
end N37
def D_zuf : DF
 | [x0,x1]=>some (.int .i64 (zuf (rdG y6d x0) (rdI x1)),false,[wG yid y6d x0,wI .i64 x1,(rdI x1)<=9223372036854775807])
 | _=>none
theorem yy0:OkD Tryz.prog 37 D_zuf:=by unfold D_zuf;exact dk N37.den
theorem yrg (a:Edition) (k:Int) (h:k<=9223372036854775807):(zwe a k).1<=9223372036854775807:=by
 unfold zwe;exact y1g _ _ h
theorem ycb (a:Edition) (k:Int):(zwe a k).2.Aids.length=a.Aids.length:=by
 unfold zwe;exact yoc _ _
theorem y2b (a:Edition) (k:Int):subL (zwe a k).2.Aids 0 a.Aids.length=(zwe a k).2.Aids:=by
 rw[<- ycb a k];exact y2f _
def ztg (a0:(List UInt8)):Bool:=
 (bif decide (1048576<(a0.length:Int))then true else(bif (((!(zgf ((zfb a0).1) ((zxb a0).1))) || (((zfb a0).2.1) != ((zxb a0).2.1))) || (((zfb a0).2.2) != ((zxb a0).2.2)))then false else(bif decide ((zuf ({ Number:=((zfb a0).1).Number,Day:=((zfb a0).1).Day,Aids:=((zwe ((zfb a0).1) 1).2).Aids:Edition }) 1)<0)then false else(bif ((zuf ({ Number:=((zfb a0).1).Number,Day:=((zfb a0).1).Day,Aids:=((zwe ((zfb a0).1) 1).2).Aids:Edition }) 1) != ((zwe ((zfb a0).1) 1).1))then false else true))))
namespace N6
theorem DD:DOk Tryz.prog (Go.Ab.DD [(33,dP D_zxb),(34,dP D_zfb),(35,dP D_zgf),(37,dP D_zuf)]):=ya y13.e <| ya yv0.e <| ya yx2.e <| ya yy0.e <| ye _
theorem dn:type_of% (And.intro @D_zxb.eq_1 <| And.intro @D_zfb.eq_1 <| And.intro @D_zgf.eq_1 <| And.intro @D_zuf.eq_1 <| And.intro @y2b <| And.intro @ycb <| And.intro @y2b <| @ycb):=And.intro @D_zxb.eq_1 <| And.intro @D_zfb.eq_1 <| And.intro @D_zgf.eq_1 <| And.intro @D_zuf.eq_1 <| And.intro @y2b <| And.intro @ycb <| And.intro @y2b <| @ycb
theorem ol:type_of% (@ycb):=@ycb
theorem gr {p:Prop} (h:p:=by(grind [yrg,yrg]);first|done|fail):p:=h
theorem o1 {p:Prop} (h:p:=by(first|(simp only[ycb,y2b];first|exact y9 _|exact Nat.le_refl _|omega));first|done|fail):p:=h
set_option maxHeartbeats 4000000 in
set_option maxRecDepth 20000 in
theorem _root_.Go.Ab.ztg_den (a0:(List UInt8))  : Den Tryz.prog 6 [.str a0] (.bool (ztg a0)):=by
 generalize hR:ztg a0=r;unfold ztg at hR;refine yxw G_ok Tryz.func6 (by kernel_rfl) rfl Tryz.ntmps6 (by rw[Tryz.results6]) (by simp) rfl ?_;intro c u hdp hlit hL hc hk;obtain⟨hL0,_⟩:=hL;have hw0:a0.length<9223372036854775808:=Nat.lt_succ_of_le hL0;clear hL0;simp only[litN,lit1,litM,yuw,litR,y2w,encL,sv,Nat.zero_add,Nat.reduceAdd]at hlit;simp only[litN,lit1,litM,yuw,encL,sv,pars,Nat.zero_add,Nat.reduceAdd];have hrb:=fun h=>ysp a0 h
 have hsb:=fun h=>ytx a0 h
 iterate 2 refine rS ?_
 refine AWP.cond rfl (fun hb => ?_) (fun hb => ?_)
 ·replace hR:=ct hR
  refine rS ?_;refine AWP.ret ?_;subst hR;exact es
 ·replace hR:=cf hR
  iterate 3 refine rS ?_
  refine AWP.cond rfl (fun hb => ?_) (fun hb => ?_)
  ·replace hR:=ct hR
   refine rS ?_;refine AWP.ret ?_;subst hR;exact es
  ·replace hR:=cf hR
   refine rS ?_;refine AWP.seq ?_;refine rX 2 (N36.den ((zfb a0).1) 1 ot) ?_;iterate 3 refine rS ?_
   refine AWP.cond rfl (fun hb => ?_) (fun hb => ?_)
   ·replace hR:=ct hR
    refine rS ?_;refine AWP.ret ?_;subst hR;exact es
   ·replace hR:=cf hR
    refine rS ?_;refine AWP.cond rfl (fun hb => ?_) (fun hb => ?_)
    ·replace hR:=ct hR
     refine rS ?_;refine AWP.ret ?_;subst hR;exact es
    ·replace hR:=cf hR
     iterate 2 refine rS ?_
     refine AWP.cond rfl (fun hb => ?_) (fun hb => ?_)
     ·exfalso;simp_all
     ·refine rS ?_
      iterate 2 refine rS ?_
      refine AWP.cond rfl (fun hb => ?_) (fun hb => ?_)
      ·exfalso;simp_all
      ·refine rS ?_
       refine AWP.cond rfl (fun hb => ?_) (fun hb => ?_)
       ·exfalso;simp_all
       ·refine rS ?_
        refine AWP.ret ?_;subst hR;exact es
end N6
theorem y1j (e:Edition) (k:Int) (h0:0<=k) (h1:k<=1000000) (hl:e.Aids.length<=1048576) (ha:∀ v∈e.Aids,v.Light.Group.length<=1048576/\v.Sectors.length<=1048576):zuf (zwe e k).2 k=(zwe e k).1/\¬ (zwe e k).1<0:=by
 have hm:=yzo e.Aids k ha hl h0 (by omega);unfold zuf zwe;dsimp only;rw[hm.1,decide_eq_false hm.2];exact⟨rfl,hm.2⟩
theorem ybm (a0:List UInt8) (hf:a0.length<9223372036854775808):ztg a0=true:=by
 unfold ztg;by_cases h:1048576<(a0.length:Int)
 ·rw[decide_eq_true h];rfl
 ·rw[decide_eq_false h]
  obtain⟨e,h1,h2⟩:=yai a0 (by omega);rw[<- e];generalize zfb a0=r at h1 h2;have hm:=y1j r.1 1 (by omega) (by omega) (by omega) (fun v hv=>by have:=(h2 v hv).1;omega);have e2:({ Number:=(r.1).Number,Day:=(r.1).Day,Aids:=((zwe (r.1) 1).2).Aids:Edition })=(zwe r.1 1).2:=rfl;rw[e2,hm.1,decide_eq_false hm.2];simp only[yh7];simp
end Go.Ab
