/- A part of a proof: walks of functions and lemmas of our own. No conditions. -/
import Derived.Test.YtjngmicjnheliaaGreatDoorQAw
import Derived.Test.YtjngmicjnheliaaGreatDoorQAi
import Derived.Test.YtjngmicjnheliaaGreatDoorQAo
import Derived.Test.YtjngmicjnheliaaGreatDoorQAl
import Derived.Test.YtjngmicjnheliaaGreatDoorQAs
import Derived.Test.YtjngmicjnheliaaGreatDoorQAv
import Derived.Test.YtjngmicjnheliaaGreatDoorQAu
import Derived.Test.YtjngmicjnheliaaGreatDoorQAq
import Derived.Test.YtjngmicjnheliaaGreatDoorQAk
set_option linter.unusedSectionVars false
set_option linter.unusedVariables false
set_option linter.unusedSimpArgs false
set_option maxHeartbeats 1000000
namespace Go.Ab
open Go Go.Proofs
theorem yxs (a:List Sector) (n:Int) (h0 : -1<=n) (h1:n<=1048576) (hl:a.length<9223372036854775808) (hx:∀ v∈a,bwSector v) :
  -1<=zkb a n/\zkb a n<=n/\(¬ zkb a n<0->a.length<=1048576/\∀ v∈a,y4e v):=by
 unfold zkb;rw[show IntKind.wrap .i64 (n-(a.length:Int))=n-a.length from by rw[IntKind.wrap_i64];omega];by_cases c:n-(a.length:Int)<0
 ·rw[decide_eq_true c];exact⟨by simp,by simpa using h0,fun h=>absurd (by simp) h⟩
 ·rw[decide_eq_false c]
  simp only[cond_false];split
  ·rename_i e h
   obtain⟨j,t,_,_,h3⟩:=y7g h;simp only[y4g]at h3
   have:e = -1:=by
    cases hq:decide (zad (a.getD j default) t<0)with
    | true=>rw[hq]at h3;simpa using h3.symm
    | false=>rw[hq]at h3;simp at h3
   omega
  ·rename_i s h
   have:=ynl (b:=y4g a n) (fun i s => -1<=s/\s<=n-a.length/\∀ j,j<i->y4e (a.getD j default)) ⟨by omega,by omega,by intro j hj;omega⟩ (by
    intro j u v h1 h2 ⟨h3,h4,h5⟩ h6;simp only[y4g]at h6;have hb:bwSector (a.getD j default):=y6h hx (by decide) j;have hf:=y9s (a.getD j default) u h3 (by omega) hb
    cases hq:decide (zad (a.getD j default) u<0)with
    | true=>rw[hq]at h6;simp at h6
    | false=>
     rw[hq]at h6;simp only[cond_false,Except.ok.injEq]at h6;subst h6;refine⟨by omega,by omega,fun q hq2 => ?_⟩;by_cases hqj:q=j
     ·subst hqj;exact hf.2.2 (of_decide_eq_false hq)
     ·exact h5 q (by omega)) h
   refine⟨by omega,by omega,fun _=>⟨by omega,fun v hv => ?_⟩⟩;obtain⟨i,hi,rfl⟩:=List.getElem_of_mem hv;have:=this.2.2 i (by omega);simpa [List.getD_eq_getElem?_getD,hi]using this
theorem y6s (x:Mark) (n:Int) (h0 : -1<=n) (h1:n<=1048576) (hx:bwMark x) : -1<=zvb x n/\zvb x n<=n/\(¬ zvb x n<0->ybs x):=by
 obtain⟨b0,b1,b2⟩:=hx;unfold zvb;have b0':x.Colors.length<9223372036854775808:=b0;rw[show IntKind.wrap .i64 (n-(x.Colors.length:Int))=n-(x.Colors.length:Int)from by rw[IntKind.wrap_i64];omega];by_cases c0:n-(x.Colors.length:Int)<0
 ·rw[decide_eq_true c0];exact⟨by simp,by simpa using h0,fun h=>absurd (by simp) h⟩
 rw[decide_eq_false c0];simp only[cond_false];have b1':x.Shape.length<9223372036854775808:=b1;rw[show IntKind.wrap .i64 (n-(x.Colors.length:Int)-(x.Shape.length:Int))=n-(x.Colors.length:Int)-(x.Shape.length:Int)from by rw[IntKind.wrap_i64];omega];by_cases c1:n-(x.Colors.length:Int)-(x.Shape.length:Int)<0
 ·rw[decide_eq_true c1];exact⟨by simp,by simpa using h0,fun h=>absurd (by simp) h⟩
 rw[decide_eq_false c1];simp only[cond_false];have b2':x.Topmark.length<9223372036854775808:=b2;rw[show IntKind.wrap .i64 (n-(x.Colors.length:Int)-(x.Shape.length:Int)-(x.Topmark.length:Int))=n-(x.Colors.length:Int)-(x.Shape.length:Int)-(x.Topmark.length:Int)from by rw[IntKind.wrap_i64];omega];by_cases c2:n-(x.Colors.length:Int)-(x.Shape.length:Int)-(x.Topmark.length:Int)<0
 ·rw[decide_eq_true c2];exact⟨by simp,by simpa using h0,fun h=>absurd (by simp) h⟩
 rw[decide_eq_false c2];simp only[cond_false];exact⟨by omega,by omega,fun _=>⟨by omega,by omega,by omega⟩⟩
def zbb (a0:Aid) (a1:Int):Int:=
 (bif decide ((IntKind.wrap .i64 (a1-(a0.Name.length:Int)))<0)then(-1)else(bif decide ((zvb a0.Mark (IntKind.wrap .i64 (a1-(a0.Name.length:Int))))<0)then(-1)else(bif decide ((zkc a0.Light (zvb a0.Mark (IntKind.wrap .i64 (a1-(a0.Name.length:Int)))))<0)then(-1)else(bif decide ((zkb a0.Sectors (zkc a0.Light (zvb a0.Mark (IntKind.wrap .i64 (a1-(a0.Name.length:Int))))))<0)then(-1)else(zkb a0.Sectors (zkc a0.Light (zvb a0.Mark (IntKind.wrap .i64 (a1-(a0.Name.length:Int))))))))))
namespace N4
theorem DD:DOk Tryz.prog (Go.Ab.DD [(10,dP D_zkc),(11,dP D_zkb),(9,dP D_zvb)]):=ya y9t.e <| ya yau.e <| ya yxv.e <| ye _
theorem dn:type_of% (And.intro @D_zkc.eq_1 <| And.intro @D_zkb.eq_1 <| @D_zvb.eq_1):=by and_intros<;>intros<;>rfl
theorem den (a0:Aid) (a1:Int)  : Den Tryz.prog 4 [.agg (eAid a0),.int .i64 a1] (.int .i64 (zbb a0 a1)):=by
 generalize hR:zbb a0 a1=r;unfold zbb at hR;refine di Tryz.func4 Tryz.ntmps4 Tryz.results4 ?_;intro c hL hc hk;obtain⟨hL0,hL1,_⟩:=hL;have hw0:bwAid a0:=ydb a0 hL0;clear hL0 hL1;simp only[pars,Nat.zero_add];iterate 3 refine rS ?_
 refine AWP.cond rfl (fun hb => ?_) (fun hb => ?_)
 ·replace hR:=ct hR
  refine rS ?_;refine AWP.ret ?_;subst hR;exact es
 ·replace hR:=cf hR
  iterate 2 refine rS ?_
  refine AWP.cond rfl (fun hb => ?_) (fun hb => ?_)
  ·replace hR:=ct hR
   refine rS ?_;refine AWP.ret ?_;subst hR;exact es
  ·replace hR:=cf hR
   iterate 2 refine rS ?_
   refine AWP.cond rfl (fun hb => ?_) (fun hb => ?_)
   ·replace hR:=ct hR
    refine rS ?_;refine AWP.ret ?_;subst hR;exact es
   ·replace hR:=cf hR
    iterate 2 refine rS ?_
    refine AWP.cond rfl (fun hb => ?_) (fun hb => ?_)
    ·replace hR:=ct hR
     refine rS ?_;refine AWP.ret ?_;subst hR;exact es
    ·replace hR:=cf hR
     refine rS ?_;refine AWP.ret ?_;subst hR;exact es
end N4
def D_zbb : DF
 | [x0,x1]=>some (.int .i64 (zbb (rdG dAid x0) (rdI x1)),false,[wG eAid dAid x0,wI .i64 x1])
 | _=>none
theorem yoo:OkD Tryz.prog 4 D_zbb:=by unfold D_zbb;exact dk N4.den
theorem yff (x:Aid) (n:Int) (h0 : -1<=n) (h1:n<=1048576) (hx:bwAid x) : -1<=zbb x n/\zbb x n<=n/\(¬ zbb x n<0->y4r x):=by
 obtain⟨b0,b1,b2,b3⟩:=hx;unfold zbb;have b0':x.Name.length<9223372036854775808:=b0;rw[show IntKind.wrap .i64 (n-(x.Name.length:Int))=n-(x.Name.length:Int)from by rw[IntKind.wrap_i64];omega];by_cases c0:n-(x.Name.length:Int)<0
 ·rw[decide_eq_true c0];exact⟨by simp,by simpa using h0,fun h=>absurd (by simp) h⟩
 rw[decide_eq_false c0];simp only[cond_false];have f1:=y6s x.Mark (n-(x.Name.length:Int)) (by omega) (by omega) b1;by_cases c1:zvb x.Mark (n-(x.Name.length:Int))<0
 ·rw[decide_eq_true c1];exact⟨by simp,by simpa using h0,fun h=>absurd (by simp) h⟩
 rw[decide_eq_false c1];simp only[cond_false];have f2:=yqs x.Light (zvb x.Mark (n-(x.Name.length:Int))) (by omega) (by omega) b2;by_cases c2:zkc x.Light (zvb x.Mark (n-(x.Name.length:Int)))<0
 ·rw[decide_eq_true c2];exact⟨by simp,by simpa using h0,fun h=>absurd (by simp) h⟩
 rw[decide_eq_false c2];simp only[cond_false];have f3:=yxs x.Sectors (zkc x.Light (zvb x.Mark (n-(x.Name.length:Int)))) (by omega) (by omega) b3.1 b3.2;by_cases c3:zkb x.Sectors (zkc x.Light (zvb x.Mark (n-(x.Name.length:Int))))<0
 ·rw[decide_eq_true c3];exact⟨by simp,by simpa using h0,fun h=>absurd (by simp) h⟩
 rw[decide_eq_false c3];simp only[cond_false];exact⟨by omega,by omega,fun _=>⟨by omega,f1.2.2 c1,f2.2.2 c2,f3.2.2 c3⟩⟩
def zzd (a0:Point):Point:=
 a0
namespace N15
theorem DD:DOk Tryz.prog (Go.Ab.DD []):=ye _
theorem den (a0:Point)  : Den Tryz.prog 15 [.agg (ePoint a0)] (.agg (ePoint (zzd a0))):=by
 generalize hR:zzd a0=r;unfold zzd at hR;refine di Tryz.func15 Tryz.ntmps15 Tryz.results15 ?_;intro c hL hc hk;clear hL;simp only[pars,Nat.zero_add];iterate 5 refine rS ?_
 refine AWP.ret ?_;subst hR;exact es
end N15
def D_zzd : DF
 | [x0]=>some (.agg (ePoint (zzd (rdG yjd x0))),false,[wG ePoint yjd x0])
 | _=>none
theorem y0v:OkD Tryz.prog 15 D_zzd:=by unfold D_zzd;exact dk N15.den
def zae (a0:Mark):Mark:=
 a0
namespace N16
theorem DD:DOk Tryz.prog (Go.Ab.DD []):=ye _
theorem den (a0:Mark)  : Den Tryz.prog 16 [.agg (eMark a0)] (.agg (eMark (zae a0))):=by
 generalize hR:zae a0=r;unfold zae at hR;refine di Tryz.func16 Tryz.ntmps16 Tryz.results16 ?_;intro c hL hc hk;obtain⟨hL0,_⟩:=hL;have hw0:bwMark a0:=yec a0 hL0;clear hL0;simp only[pars,Nat.zero_add];iterate 7 refine rS ?_
 refine AWP.ret ?_;subst hR;exact es
end N16
def D_zae : DF
 | [x0]=>some (.agg (eMark (zae (rdG yzd x0))),false,[wG eMark yzd x0])
 | _=>none
theorem y1t:OkD Tryz.prog 16 D_zae:=by unfold D_zae;exact dk N16.den
def yim (a0:(List Int)) (i1:Nat) (s1:List Int):Except ((List Int)) (List Int):=
 .ok (s1.set i1 (a0.getD i1 default))
def zdc (a0:(List Int)):(List Int):=
 (match yf (yim a0) (a0.length-0) 0 (List.replicate a0.length (default:Int))with|.error e=>e|.ok s1=>s1)
namespace N39
theorem DD:DOk Tryz.prog (Go.Ab.DD []):=ye _
theorem den (a0:(List Int)) (hb0:a0.length<1099511627776):Den Tryz.prog 39 [encL 1 yq a0] (ownL 2 1 yq (zdc a0)):=by
 generalize hR:zdc a0=r;unfold zdc at hR;refine di Tryz.func39 Tryz.ntmps39 Tryz.results39 ?_;intro c hL hc hk;obtain⟨hL0,_⟩:=hL;have hw0:a0.length<9223372036854775808:=Nat.lt_succ_of_le (yd hL0).1;clear hL0;simp only[pars,Nat.zero_add];iterate 3 refine rS ?_
 refine AWP.block ?_;generalize hz1:yf (yim a0) (a0.length-0) 0 (List.replicate a0.length (default:Int))=z1 at hR;refine AWP.range (yim a0) (fun i1 s1=>⟨[(0,encL 1 yq a0),(3,.ref 0 1 0 s1.length),(4,.int .i64 (i1:Int))],[.arr 2 1 s1.length (fun j=>yq (s1.getD j default))]⟩) (fun i1 s1=>s1.length=(List.replicate a0.length (default:Int)).length) (a0.length) 0 (List.replicate a0.length (default:Int)) [0] hz1 ot wt sm ?_;clear hz1;intro i1 s1 hi1 hW1 hz1;refine rS ?_;refine AWP.cond rfl (fun hb => ?_) (fun hb => ?_)
 ·have hlt1:i1<a0.length:=ot
  rw[yg hlt1]at hz1;simp only[yim]at hz1;iterate 2 refine rS ?_
  exact⟨_,[0],hlt1,wt,hz1,sm⟩
 ·obtain rfl:i1=a0.length:=ot
  rw[yh (Nat.le_refl _)]at hz1;subst hz1;dsimp only at hR;refine AWP.exit ?_;refine yc ?_;refine rS ?_;refine AWP.ret ?_;subst hR;exact es
end N39
def D_zdc : DF
 | [x0]=>some (ownL 2 1 yq (zdc (rdL ynb x0)),false,[wL 1 yq ynb x0,(rdL ynb x0).length<1099511627776])
 | _=>none
theorem yst:OkD Tryz.prog 39 D_zdc:=by unfold D_zdc;exact dk N39.den
theorem yfs (a:List Int):zdc a=a:=by
 unfold zdc;rw[yaj (b:=yim a) (fun i=>a.getD i default) (by simp) (fun i s _=>rfl)];skip
 exact ygb a
def zbe (a0:Character):Character:=
 { Kind:=a0.Kind,Group:=(zdc a0.Group),Letter:=a0.Letter,Colors:=a0.Colors,Period:=a0.Period:Character }
namespace N17
theorem DD:DOk Tryz.prog (Go.Ab.DD [(39,dP D_zdc)]):=ya yst.e <| ye _
theorem dn:type_of% (@D_zdc.eq_1):=by and_intros<;>intros<;>rfl
theorem ol:type_of% (@yfs):=@yfs
theorem den (a0:Character) (hb0:bdCharacter a0):Den Tryz.prog 17 [.agg (eCharacter a0)] (.agg (ygd (zbe a0))):=by
 generalize hR:zbe a0=r;unfold zbe at hR;refine di Tryz.func17 Tryz.ntmps17 Tryz.results17 ?_;intro c hL hc hk;obtain⟨hL0,_⟩:=hL;have hw0:bwCharacter a0:=yj a0 hL0;clear hL0;simp only[pars,Nat.zero_add];iterate 8 refine rS ?_
 refine AWP.ret ?_;subst hR;exact es
end N17
def D_zbe : DF
 | [x0]=>some (.agg (ygd (zbe (rdG yb x0))),false,[wG eCharacter yb x0,bdCharacter (rdG yb x0)])
 | _=>none
theorem ywu:OkD Tryz.prog 17 D_zbe:=by unfold D_zbe;exact dk N17.den
def zsd (a0:Sector):Sector:=
 a0
namespace N40
theorem DD:DOk Tryz.prog (Go.Ab.DD []):=ye _
theorem den (a0:Sector)  : Den Tryz.prog 40 [.agg (eSector a0)] (.agg (eSector (zsd a0))):=by
 generalize hR:zsd a0=r;unfold zsd at hR;refine di Tryz.func40 Tryz.ntmps40 Tryz.results40 ?_;intro c hL hc hk;obtain⟨hL0,_⟩:=hL;have hw0:bwSector a0:=yr a0 hL0;clear hL0;simp only[pars,Nat.zero_add];iterate 6 refine rS ?_
 refine AWP.ret ?_;subst hR;exact es
end N40
def D_zsd : DF
 | [x0]=>some (.agg (eSector (zsd (rdG yp x0))),false,[wG eSector yp x0])
 | _=>none
theorem y6v:OkD Tryz.prog 40 D_zsd:=by unfold D_zsd;exact dk N40.den
def yjm (a0:(List Sector)) (i1:Nat) (s1:List Sector):Except ((List Sector)) (List Sector):=
 .ok (s1.set i1 (zsd (a0.getD i1 default)))
def zec (a0:(List Sector)):(List Sector):=
 (match yf (yjm a0) (a0.length-0) 0 (List.replicate a0.length (default:Sector))with|.error e=>e|.ok s1=>s1)
namespace N18
theorem DD:DOk Tryz.prog (Go.Ab.DD [(40,dP D_zsd)]):=ya y6v.e <| ye _
theorem dn:type_of% (@D_zsd.eq_1):=by and_intros<;>intros<;>rfl
theorem den (a0:(List Sector)) (hb0:a0.length<1099511627776) (hb1:∀ v∈a0,bdSector v):Den Tryz.prog 18 [encL 3 eSector a0] (ownL 76 3 eSector (zec a0)):=by
 generalize hR:zec a0=r;unfold zec at hR;refine di Tryz.func18 Tryz.ntmps18 Tryz.results18 ?_;intro c hL hc hk;obtain⟨hL0,_⟩:=hL;have hw0:a0.length<9223372036854775808:=Nat.lt_succ_of_le (yd hL0).1;have hw1:∀ v∈a0,bwSector v:=fun v hv=>yr v ((yd hL0).2 v hv)
 clear hL0;simp only[pars,Nat.zero_add];iterate 3 refine rS ?_
 refine AWP.block ?_;generalize hz1:yf (yjm a0) (a0.length-0) 0 (List.replicate a0.length (default:Sector))=z1 at hR;refine AWP.range (yjm a0) (fun i1 s1=>⟨[(0,encL 3 eSector a0),(3,.ref 0 3 0 s1.length),(4,.int .i64 (i1:Int))],[.arr 76 3 s1.length (fun j=>eSector (s1.getD j default))]⟩) (fun i1 s1=>s1.length=(List.replicate a0.length (default:Sector)).length) (a0.length) 0 (List.replicate a0.length (default:Sector)) [0] hz1 ot wt sm ?_;clear hz1;intro i1 s1 hi1 hW1 hz1;refine rS ?_;refine AWP.cond rfl (fun hb => ?_) (fun hb => ?_)
 ·have hlt1:i1<a0.length:=ot
  rw[yg hlt1]at hz1;simp only[yjm]at hz1;iterate 2 refine rS ?_
  exact⟨_,[0],hlt1,wt,hz1,sm⟩
 ·obtain rfl:i1=a0.length:=ot
  rw[yh (Nat.le_refl _)]at hz1;subst hz1;dsimp only at hR;refine AWP.exit ?_;refine yc ?_;refine rS ?_;refine AWP.ret ?_;subst hR;exact es
end N18
def D_zec : DF
 | [x0]=>some (ownL 76 3 eSector (zec (rdL yp x0)),false,[wL 3 eSector yp x0,(rdL yp x0).length<1099511627776,∀ v∈(rdL yp x0),bdSector v])
 | _=>none
theorem yjw:OkD Tryz.prog 18 D_zec:=by unfold D_zec;exact dk N18.den
theorem ybz (v:Sector):zsd v=v:=by
 unfold zsd;rfl
theorem y1r (a:List Sector):zec a=a:=by
 unfold zec;rw[yaj (b:=yjm a) (fun i=>zsd (a.getD i default)) (by simp) (fun i s _=>rfl)];simp only[ybz];exact ygb a
def zv (a0:Aid):Aid:=
 { Number:=a0.Number,Name:=a0.Name,At:=(zzd a0.At),Height:=a0.Height,Mark:=(zae a0.Mark),Light:=zbe a0.Light,Sectors:=(zec a0.Sectors),Intensity:=a0.Intensity:Aid }
namespace N6
theorem DD:DOk Tryz.prog (Go.Ab.DD [(15,dP D_zzd),(16,dP D_zae),(17,dP D_zbe),(18,dP D_zec)]):=ya y0v.e <| ya y1t.e <| ya ywu.e <| ya yjw.e <| ye _
theorem dn:type_of% (And.intro @D_zzd.eq_1 <| And.intro @D_zae.eq_1 <| And.intro @D_zbe.eq_1 <| @D_zec.eq_1):=by and_intros<;>intros<;>rfl
theorem ol:type_of% (@y1r):=@y1r
theorem den (a0:Aid) (hb0:bdAid a0):Den Tryz.prog 6 [.agg (eAid a0)] (.agg (ytr (zv a0))):=by
 generalize hR:zv a0=r;unfold zv at hR;refine di Tryz.func6 Tryz.ntmps6 Tryz.results6 ?_;intro c hL hc hk;obtain⟨hL0,_⟩:=hL;have hw0:bwAid a0:=ydb a0 hL0;clear hL0;simp only[pars,Nat.zero_add];iterate 11 refine rS ?_
 refine AWP.ret ?_;subst hR;exact es
end N6
def D_zv : DF
 | [x0]=>some (.agg (ytr (zv (rdG dAid x0))),false,[wG eAid dAid x0,bdAid (rdG dAid x0)])
 | _=>none
def Dz_zv : DF
 | [x0]=>some (.agg (ytr (zv (rdG dAid x0))),true,[wG eAid dAid x0,bdAid (rdG dAid x0)])
 | _=>none
theorem ypy:OkD Tryz.prog 6 D_zv:=by unfold D_zv;exact dk N6.den
theorem ydu:OkD Tryz.prog 6 Dz_zv:=by unfold Dz_zv;exact dk N6.den
theorem y6y (v:Point):zzd v=v:=by
 unfold zzd;rfl
theorem yhz (v:Mark):zae v=v:=by
 unfold zae;rfl
theorem ypz (v:Character):zbe v=v:=by
 unfold zbe;simp only[yfs]
theorem y1x (v:Aid):zv v=v:=by
 unfold zv;simp only[y6y,yhz,ypz,y1r]
def zce (a0:Point) (a1:Point):Bool:=
 (bif (a0.X != a1.X)then false else(bif (a0.Y != a1.Y)then false else true))
namespace N23
theorem DD:DOk Tryz.prog (Go.Ab.DD []):=ye _
theorem den (a0:Point) (a1:Point)  : Den Tryz.prog 23 [.agg (ePoint a0),.agg (ePoint a1)] (.bool (zce a0 a1)):=by
 generalize hR:zce a0 a1=r;unfold zce at hR;refine di Tryz.func23 Tryz.ntmps23 Tryz.results23 ?_;intro c hL hc hk;clear hL;simp only[pars,Nat.zero_add];iterate 2 refine rS ?_
 refine AWP.cond rfl (fun hb => ?_) (fun hb => ?_)
 ·replace hR:=ct hR
  refine rS ?_;refine AWP.ret ?_;subst hR;exact es
 ·replace hR:=cf hR
  refine rS ?_;refine AWP.cond rfl (fun hb => ?_) (fun hb => ?_)
  ·replace hR:=ct hR
   refine rS ?_;refine AWP.ret ?_;subst hR;exact es
  ·replace hR:=cf hR
   refine rS ?_;refine AWP.ret ?_;subst hR;exact es
end N23
def D_zce : DF
 | [x0,x1]=>some (.bool (zce (rdG yjd x0) (rdG yjd x1)),false,[wG ePoint yjd x0,wG ePoint yjd x1])
 | _=>none
theorem yjt:OkD Tryz.prog 23 D_zce:=by unfold D_zce;exact dk N23.den
def zde (a0:Mark) (a1:Mark):Bool:=
 (bif (a0.Kind != a1.Kind)then false else(bif (a0.Colors != a1.Colors)then false else(bif (a0.Shape != a1.Shape)then false else(bif (a0.Topmark != a1.Topmark)then false else true))))
namespace N24
theorem DD:DOk Tryz.prog (Go.Ab.DD []):=ye _
theorem den (a0:Mark) (a1:Mark)  : Den Tryz.prog 24 [.agg (eMark a0),.agg (eMark a1)] (.bool (zde a0 a1)):=by
 generalize hR:zde a0 a1=r;unfold zde at hR;refine di Tryz.func24 Tryz.ntmps24 Tryz.results24 ?_;intro c hL hc hk;obtain⟨hL0,hL1,_⟩:=hL;have hw0:bwMark a0:=yec a0 hL0;have hw1:bwMark a1:=yec a1 hL1;clear hL0 hL1;simp only[pars,Nat.zero_add];iterate 2 refine rS ?_
 refine AWP.cond rfl (fun hb => ?_) (fun hb => ?_)
 ·replace hR:=ct hR
  refine rS ?_;refine AWP.ret ?_;subst hR;exact es
 ·replace hR:=cf hR
  refine rS ?_;refine AWP.cond rfl (fun hb => ?_) (fun hb => ?_)
  ·replace hR:=ct hR
   refine rS ?_;refine AWP.ret ?_;subst hR;exact es
  ·replace hR:=cf hR
   refine rS ?_;refine AWP.cond rfl (fun hb => ?_) (fun hb => ?_)
   ·replace hR:=ct hR
    refine rS ?_;refine AWP.ret ?_;subst hR;exact es
   ·replace hR:=cf hR
    refine rS ?_;refine AWP.cond rfl (fun hb => ?_) (fun hb => ?_)
    ·replace hR:=ct hR
     refine rS ?_;refine AWP.ret ?_;subst hR;exact es
    ·replace hR:=cf hR
     refine rS ?_;refine AWP.ret ?_;subst hR;exact es
end N24
def D_zde : DF
 | [x0,x1]=>some (.bool (zde (rdG yzd x0) (rdG yzd x1)),false,[wG eMark yzd x0,wG eMark yzd x1])
 | _=>none
theorem y5t:OkD Tryz.prog 24 D_zde:=by unfold D_zde;exact dk N24.den
def ycj (a0:(List Int)) (a1:(List Int)) (i1:Nat) (s1:Unit):Except (Bool) (Unit):=
 (bif ((a0.getD i1 default) != (a1.getD i1 default))then .error false else .ok ())
def zlc (a0:(List Int)) (a1:(List Int)):Bool:=
 (bif ((a0.length:Int) != (a1.length:Int))then false else(match yf (ycj a0 a1) (a0.length-0) 0 ()with|.error e=>e|.ok s1=>true))
namespace N55
theorem DD:DOk Tryz.prog (Go.Ab.DD []):=ye _
theorem den (a0:(List Int)) (a1:(List Int))  : Den Tryz.prog 55 [encL 1 yq a0,encL 1 yq a1] (.bool (zlc a0 a1)):=by
 generalize hR:zlc a0 a1=r;unfold zlc at hR;refine di Tryz.func55 Tryz.ntmps55 Tryz.results55 ?_;intro c hL hc hk;obtain⟨hL0,hL1,_⟩:=hL;have hw0:a0.length<9223372036854775808:=Nat.lt_succ_of_le (yd hL0).1;have hw1:a1.length<9223372036854775808:=Nat.lt_succ_of_le (yd hL1).1;clear hL0 hL1;simp only[pars,Nat.zero_add];iterate 2 refine rS ?_
 refine AWP.cond rfl (fun hb => ?_) (fun hb => ?_)
 ·replace hR:=ct hR
  refine rS ?_;refine AWP.ret ?_;subst hR;exact es
 ·replace hR:=cf hR
  refine rS ?_;refine AWP.block ?_;generalize hz1:yf (ycj a0 a1) (a0.length-0) 0 ()=z1 at hR;refine AWP.range (ycj a0 a1) (fun i1 s1=>⟨[(0,encL 1 yq a0),(1,encL 1 yq a1),(5,.int .i64 (i1:Int))],[]⟩) (fun i1 s1=>True) (a0.length) 0 () [] hz1 ot wt sm ?_;clear hz1;intro i1 s1 hi1 hW1 hz1;refine rS ?_;refine AWP.cond rfl (fun hb => ?_) (fun hb => ?_)
  ·have hlt1:i1<a0.length:=ot
   rw[yg hlt1]at hz1;simp only[ycj]at hz1;refine rD 8 ?_;refine AWP.cond rfl (fun hb => ?_) (fun hb => ?_)
   ·simp only[hb,cond_true]at hz1
    refine rS ?_;refine AWP.ret ?_;subst hz1;dsimp only at hR;subst hR;exact es
   ·simp only[hb,cond_false]at hz1
    refine rS ?_;exact⟨_,[],hlt1,wt,hz1,sm⟩
  ·obtain rfl:i1=a0.length:=ot
   rw[yh (Nat.le_refl _)]at hz1;subst hz1;dsimp only at hR;refine AWP.exit ?_;refine yc ?_;refine rS ?_;refine AWP.ret ?_;subst hR;exact es
end N55
def D_zlc : DF
 | [x0,x1]=>some (.bool (zlc (rdL ynb x0) (rdL ynb x1)),false,[wL 1 yq ynb x0,wL 1 yq ynb x1])
 | _=>none
theorem y8u:OkD Tryz.prog 55 D_zlc:=by unfold D_zlc;exact dk N55.den
def zee (a0:Character) (a1:Character):Bool:=
 (bif (a0.Kind != a1.Kind)then false else(bif (!(zlc a0.Group a1.Group))then false else(bif (a0.Letter != a1.Letter)then false else(bif (a0.Colors != a1.Colors)then false else(bif (a0.Period != a1.Period)then false else true)))))
namespace N25
theorem DD:DOk Tryz.prog (Go.Ab.DD [(55,dP D_zlc)]):=ya y8u.e <| ye _
theorem dn:type_of% (@D_zlc.eq_1):=by and_intros<;>intros<;>rfl
theorem den (a0:Character) (a1:Character)  : Den Tryz.prog 25 [.agg (eCharacter a0),.agg (eCharacter a1)] (.bool (zee a0 a1)):=by
 generalize hR:zee a0 a1=r;unfold zee at hR;refine di Tryz.func25 Tryz.ntmps25 Tryz.results25 ?_;intro c hL hc hk;obtain⟨hL0,hL1,_⟩:=hL;have hw0:bwCharacter a0:=yj a0 hL0;have hw1:bwCharacter a1:=yj a1 hL1;clear hL0 hL1;simp only[pars,Nat.zero_add];iterate 2 refine rS ?_
 refine AWP.cond rfl (fun hb => ?_) (fun hb => ?_)
 ·replace hR:=ct hR
  refine rS ?_;refine AWP.ret ?_;subst hR;exact es
 ·replace hR:=cf hR
  refine rS ?_;refine AWP.cond rfl (fun hb => ?_) (fun hb => ?_)
  ·replace hR:=ct hR
   refine rS ?_;refine AWP.ret ?_;subst hR;exact es
  ·replace hR:=cf hR
   refine rS ?_;refine AWP.cond rfl (fun hb => ?_) (fun hb => ?_)
   ·replace hR:=ct hR
    refine rS ?_;refine AWP.ret ?_;subst hR;exact es
   ·replace hR:=cf hR
    refine rS ?_;refine AWP.cond rfl (fun hb => ?_) (fun hb => ?_)
    ·replace hR:=ct hR
     refine rS ?_;refine AWP.ret ?_;subst hR;exact es
    ·replace hR:=cf hR
     refine rS ?_;refine AWP.cond rfl (fun hb => ?_) (fun hb => ?_)
     ·replace hR:=ct hR
      refine rS ?_;refine AWP.ret ?_;subst hR;exact es
     ·replace hR:=cf hR
      refine rS ?_;refine AWP.ret ?_;subst hR;exact es
end N25
def D_zee : DF
 | [x0,x1]=>some (.bool (zee (rdG yb x0) (rdG yb x1)),false,[wG eCharacter yb x0,wG eCharacter yb x1])
 | _=>none
theorem yov:OkD Tryz.prog 25 D_zee:=by unfold D_zee;exact dk N25.den
def zfe (a0:Sector) (a1:Sector):Bool:=
 (bif (a0.From != a1.From)then false else(bif (a0.To != a1.To)then false else(bif (a0.Color != a1.Color)then false else true)))
namespace N56
theorem DD:DOk Tryz.prog (Go.Ab.DD []):=ye _
theorem den (a0:Sector) (a1:Sector)  : Den Tryz.prog 56 [.agg (eSector a0),.agg (eSector a1)] (.bool (zfe a0 a1)):=by
 generalize hR:zfe a0 a1=r;unfold zfe at hR;refine di Tryz.func56 Tryz.ntmps56 Tryz.results56 ?_;intro c hL hc hk;obtain⟨hL0,hL1,_⟩:=hL;have hw0:bwSector a0:=yr a0 hL0;have hw1:bwSector a1:=yr a1 hL1;clear hL0 hL1;simp only[pars,Nat.zero_add];iterate 2 refine rS ?_
 refine AWP.cond rfl (fun hb => ?_) (fun hb => ?_)
 ·replace hR:=ct hR
  refine rS ?_;refine AWP.ret ?_;subst hR;exact es
 ·replace hR:=cf hR
  refine rS ?_;refine AWP.cond rfl (fun hb => ?_) (fun hb => ?_)
  ·replace hR:=ct hR
   refine rS ?_;refine AWP.ret ?_;subst hR;exact es
  ·replace hR:=cf hR
   refine rS ?_;refine AWP.cond rfl (fun hb => ?_) (fun hb => ?_)
   ·replace hR:=ct hR
    refine rS ?_;refine AWP.ret ?_;subst hR;exact es
   ·replace hR:=cf hR
    refine rS ?_;refine AWP.ret ?_;subst hR;exact es
end N56
def D_zfe : DF
 | [x0,x1]=>some (.bool (zfe (rdG yp x0) (rdG yp x1)),false,[wG eSector yp x0,wG eSector yp x1])
 | _=>none
theorem ycw:OkD Tryz.prog 56 D_zfe:=by unfold D_zfe;exact dk N56.den
def yhj (a0:(List Sector)) (a1:(List Sector)) (i1:Nat) (s1:Unit):Except (Bool) (Unit):=
 (bif (!(zfe (a0.getD i1 default) (a1.getD i1 default)))then .error false else .ok ())
def zmc (a0:(List Sector)) (a1:(List Sector)):Bool:=
 (bif ((a0.length:Int) != (a1.length:Int))then false else(match yf (yhj a0 a1) (a0.length-0) 0 ()with|.error e=>e|.ok s1=>true))
namespace N26
theorem DD:DOk Tryz.prog (Go.Ab.DD [(56,dP D_zfe)]):=ya ycw.e <| ye _
theorem dn:type_of% (@D_zfe.eq_1):=by and_intros<;>intros<;>rfl
theorem den (a0:(List Sector)) (a1:(List Sector))  : Den Tryz.prog 26 [encL 3 eSector a0,encL 3 eSector a1] (.bool (zmc a0 a1)):=by
 generalize hR:zmc a0 a1=r;unfold zmc at hR;refine di Tryz.func26 Tryz.ntmps26 Tryz.results26 ?_;intro c hL hc hk;obtain⟨hL0,hL1,_⟩:=hL;have hw0:a0.length<9223372036854775808:=Nat.lt_succ_of_le (yd hL0).1;have hw1:∀ v∈a0,bwSector v:=fun v hv=>yr v ((yd hL0).2 v hv)
 have hw2:a1.length<9223372036854775808:=Nat.lt_succ_of_le (yd hL1).1;have hw3:∀ v∈a1,bwSector v:=fun v hv=>yr v ((yd hL1).2 v hv)
 clear hL0 hL1;simp only[pars,Nat.zero_add];iterate 2 refine rS ?_
 refine AWP.cond rfl (fun hb => ?_) (fun hb => ?_)
 ·replace hR:=ct hR
  refine rS ?_;refine AWP.ret ?_;subst hR;exact es
 ·replace hR:=cf hR
  refine rS ?_;refine AWP.block ?_;generalize hz1:yf (yhj a0 a1) (a0.length-0) 0 ()=z1 at hR;refine AWP.range (yhj a0 a1) (fun i1 s1=>⟨[(0,encL 3 eSector a0),(1,encL 3 eSector a1),(5,.int .i64 (i1:Int))],[]⟩) (fun i1 s1=>True) (a0.length) 0 () [] hz1 ot wt sm ?_;clear hz1;intro i1 s1 hi1 hW1 hz1;refine rS ?_;refine AWP.cond rfl (fun hb => ?_) (fun hb => ?_)
  ·have hlt1:i1<a0.length:=ot
   rw[yg hlt1]at hz1;simp only[yhj]at hz1;refine rD 8 ?_;refine AWP.cond rfl (fun hb => ?_) (fun hb => ?_)
   ·simp only[hb,cond_true]at hz1
    refine rS ?_;refine AWP.ret ?_;subst hz1;dsimp only at hR;subst hR;exact es
   ·simp only[hb,cond_false]at hz1
    refine rS ?_;exact⟨_,[],hlt1,wt,hz1,sm⟩
  ·obtain rfl:i1=a0.length:=ot
   rw[yh (Nat.le_refl _)]at hz1;subst hz1;dsimp only at hR;refine AWP.exit ?_;refine yc ?_;refine rS ?_;refine AWP.ret ?_;subst hR;exact es
end N26
def D_zmc : DF
 | [x0,x1]=>some (.bool (zmc (rdL yp x0) (rdL yp x1)),false,[wL 3 eSector yp x0,wL 3 eSector yp x1])
 | _=>none
theorem ypu:OkD Tryz.prog 26 D_zmc:=by unfold D_zmc;exact dk N26.den
def zhd (a0:Aid) (a1:Aid):Bool:=
 (bif (a0.Number != a1.Number)then false else(bif (a0.Name != a1.Name)then false else(bif (!(zce a0.At a1.At))then false else(bif (a0.Height != a1.Height)then false else(bif (!(zde a0.Mark a1.Mark))then false else(bif (!(zee a0.Light a1.Light))then false else(bif (!(zmc a0.Sectors a1.Sectors))then false else(bif (a0.Intensity != a1.Intensity)then false else true))))))))
namespace N8
theorem DD:DOk Tryz.prog (Go.Ab.DD [(23,dP D_zce),(24,dP D_zde),(25,dP D_zee),(26,dP D_zmc)]):=ya yjt.e <| ya y5t.e <| ya yov.e <| ya ypu.e <| ye _
theorem dn:type_of% (And.intro @D_zce.eq_1 <| And.intro @D_zde.eq_1 <| And.intro @D_zee.eq_1 <| @D_zmc.eq_1):=by and_intros<;>intros<;>rfl
theorem den (a0:Aid) (a1:Aid)  : Den Tryz.prog 8 [.agg (eAid a0),.agg (eAid a1)] (.bool (zhd a0 a1)):=by
 generalize hR:zhd a0 a1=r;unfold zhd at hR;refine di Tryz.func8 Tryz.ntmps8 Tryz.results8 ?_;intro c hL hc hk;obtain⟨hL0,hL1,_⟩:=hL;have hw0:bwAid a0:=ydb a0 hL0;have hw1:bwAid a1:=ydb a1 hL1;clear hL0 hL1;simp only[pars,Nat.zero_add];iterate 2 refine rS ?_
 refine AWP.cond rfl (fun hb => ?_) (fun hb => ?_)
 ·replace hR:=ct hR
  refine rS ?_;refine AWP.ret ?_;subst hR;exact es
 ·replace hR:=cf hR
  refine rS ?_;refine AWP.cond rfl (fun hb => ?_) (fun hb => ?_)
  ·replace hR:=ct hR
   refine rS ?_;refine AWP.ret ?_;subst hR;exact es
  ·replace hR:=cf hR
   refine rS ?_;refine AWP.cond rfl (fun hb => ?_) (fun hb => ?_)
   ·replace hR:=ct hR
    refine rS ?_;refine AWP.ret ?_;subst hR;exact es
   ·replace hR:=cf hR
    refine rS ?_;refine AWP.cond rfl (fun hb => ?_) (fun hb => ?_)
    ·replace hR:=ct hR
     refine rS ?_;refine AWP.ret ?_;subst hR;exact es
    ·replace hR:=cf hR
     refine rS ?_;refine AWP.cond rfl (fun hb => ?_) (fun hb => ?_)
     ·replace hR:=ct hR
      refine rS ?_;refine AWP.ret ?_;subst hR;exact es
     ·replace hR:=cf hR
      refine rS ?_;refine AWP.cond rfl (fun hb => ?_) (fun hb => ?_)
      ·replace hR:=ct hR
       refine rS ?_;refine AWP.ret ?_;subst hR;exact es
      ·replace hR:=cf hR
       refine rS ?_;refine AWP.cond rfl (fun hb => ?_) (fun hb => ?_)
       ·replace hR:=ct hR
        refine rS ?_;refine AWP.ret ?_;subst hR;exact es
       ·replace hR:=cf hR
        refine rS ?_;refine AWP.cond rfl (fun hb => ?_) (fun hb => ?_)
        ·replace hR:=ct hR
         refine rS ?_;refine AWP.ret ?_;subst hR;exact es
        ·replace hR:=cf hR
         refine rS ?_;refine AWP.ret ?_;subst hR;exact es
end N8
def D_zhd : DF
 | [x0,x1]=>some (.bool (zhd (rdG dAid x0) (rdG dAid x1)),false,[wG eAid dAid x0,wG eAid dAid x1])
 | _=>none
theorem yjp:OkD Tryz.prog 8 D_zhd:=by unfold D_zhd;exact dk N8.den
theorem yey (a b:Point):zce a b=decide (a=b):=by
 unfold zce;skip
 by_cases h:a=b
 ·subst h;simp
 ·rw[decide_eq_false h]
  cases a;cases b
  simp only[Point.mk.injEq]at h;simp only[bne_iff_ne,Bool.cond_eq_ite,ite_eq_right_iff]
  (repeat' split)<;>simp_all
theorem yxy (a b:Mark):zde a b=decide (a=b):=by
 unfold zde;skip
 by_cases h:a=b
 ·subst h;simp
 ·rw[decide_eq_false h]
  cases a;cases b
  simp only[Mark.mk.injEq]at h;simp only[bne_iff_ne,Bool.cond_eq_ite,ite_eq_right_iff]
  (repeat' split)<;>simp_all
theorem yry (a b:List Int):zlc a b=decide (a=b):=by
 unfold zlc;by_cases hl:a.length=b.length
 ·have h1:((a.length:Int) != (b.length:Int))=false:=by simp[hl]
  rw[h1,cond_false,yic (b:=ycj a b) (fun j => !decide (a.getD j default=b.getD j default)) false (fun j u _ _=>by simp only[ycj,ned])];simp only[Nat.sub_zero,Nat.zero_add];rw[y2o a b hl];by_cases h:a=b<;>simp[h]
 ·have h1:((a.length:Int) != (b.length:Int))=true:=by simp;omega
  have h2:¬ a=b:=fun e=>hl (by rw[e])
  rw[h1,cond_true,decide_eq_false h2]
theorem yyy (a b:Character):zee a b=decide (a=b):=by
 unfold zee;simp only[yry];by_cases h:a=b
 ·subst h;simp
 ·rw[decide_eq_false h]
  cases a;cases b
  simp only[Character.mk.injEq]at h;simp only[bne_iff_ne,Bool.cond_eq_ite,ite_eq_right_iff]
  (repeat' split)<;>simp_all
theorem yxx (a b:Sector):zfe a b=decide (a=b):=by
 unfold zfe;skip
 by_cases h:a=b
 ·subst h;simp
 ·rw[decide_eq_false h]
  cases a;cases b
  simp only[Sector.mk.injEq]at h;simp only[bne_iff_ne,Bool.cond_eq_ite,ite_eq_right_iff]
  (repeat' split)<;>simp_all
theorem y0y (a b:List Sector):zmc a b=decide (a=b):=by
 unfold zmc;by_cases hl:a.length=b.length
 ·have h1:((a.length:Int) != (b.length:Int))=false:=by simp[hl]
  rw[h1,cond_false,yic (b:=yhj a b) (fun j => !decide (a.getD j default=b.getD j default)) false (fun j u _ _=>by simp only[yhj,yxx])];simp only[Nat.sub_zero,Nat.zero_add];rw[y2o a b hl];by_cases h:a=b<;>simp[h]
 ·have h1:((a.length:Int) != (b.length:Int))=true:=by simp;omega
  have h2:¬ a=b:=fun e=>hl (by rw[e])
  rw[h1,cond_true,decide_eq_false h2]
theorem yzx (a b:Aid):zhd a b=decide (a=b):=by
 unfold zhd;simp only[yey,yxy,yyy,y0y];by_cases h:a=b
 ·subst h;simp
 ·rw[decide_eq_false h]
  cases a;cases b
  simp only[Aid.mk.injEq]at h;simp only[bne_iff_ne,Bool.cond_eq_ite,ite_eq_right_iff]
  (repeat' split)<;>simp_all
def zgf (a0:Aid) (a1:Aid) (a2:Int):Bool:=
 (((zhc a0) && (zhc a1)) && (ztc a0.Light a1.Light a2))
namespace N14
theorem DD:DOk Tryz.prog (Go.Ab.DD [(37,dP D_zhc),(38,dP D_ztc)]):=ya yeu.e <| ya ylv.e <| ye _
theorem dn:type_of% (And.intro @D_zhc.eq_1 <| @D_ztc.eq_1):=by and_intros<;>intros<;>rfl
theorem o1 {p:Prop} (h:p:=by(first|(have h9:(zhc a0 && zhc a1)=true:=(by assumption);rw[Bool.and_eq_true]at h9;first|exact hl0 h9.1|exact hl1 h9.2)|(exact hb0.2.2.1)|(exact hb1.2.2.1));first|done|fail):p:=h
theorem den (a0:Aid) (a1:Aid) (a2:Int) (hb0:bdAid a0) (hb1:bdAid a1) (hp0:zrb a0=true) (hp1:zrb a1=true):Den Tryz.prog 14 [.ep (eAid a0),.ep (eAid a1),.int .i64 a2] (.bool (zgf a0 a1 a2)):=by
 generalize hR:zgf a0 a1 a2=r;unfold zgf at hR;refine di Tryz.func14 Tryz.ntmps14 Tryz.results14 ?_;intro c hL hc hk;obtain⟨hL0,hL1,hL2,_⟩:=hL;have hw0:bwAid a0:=ydb a0 hL0;have hw1:bwAid a1:=ydb a1 hL1;clear hL0 hL1 hL2;simp only[pars,Nat.zero_add];have hl0:=(yih hp0).2.2.2.2.2.2.2.1;have hl1:=(yih hp1).2.2.2.2.2.2.2.1;refine rS ?_;refine rD 16 ?_;refine AWP.ret ?_;subst hR;exact es
end N14
def D_zgf : DF
 | [x0,x1,x2]=>some (.bool (zgf (rdP dAid x0) (rdP dAid x1) (rdI x2)),false,[wP eAid dAid x0,wP eAid dAid x1,wI .i64 x2,bdAid (rdP dAid x0),bdAid (rdP dAid x1),zrb (rdP dAid x0)=true,zrb (rdP dAid x1)=true])
 | _=>none
theorem y7t:OkD Tryz.prog 14 D_zgf:=by unfold D_zgf;exact dk N14.den
def zid (a0:Aid) (a1:Aid) (a2:Int):(Bool×Int):=
 (bif ((!(zrb a0)) || (!(zrb a1)))then(false,1)else(bif (!(zyd a2))then(false,2)else((zgf a0 a1 a2),0)))
namespace N5
theorem DD:DOk Tryz.prog (Go.Ab.DD [(12,dP D_zrb),(13,dP D_zyd),(14,dP D_zgf)]):=ya y2u.e <| ya yqw.e <| ya y7t.e <| ye _
theorem dn:type_of% (And.intro @D_zrb.eq_1 <| And.intro @D_zyd.eq_1 <| @D_zgf.eq_1):=by and_intros<;>intros<;>rfl
theorem o1 {p:Prop} (h:p:=by(first|(have h9:((!(zrb a0)) || (!(zrb a1)))=false:=(by assumption);simp only[Bool.or_eq_false_iff,Bool.not_eq_false']at h9;first|exact h9.1|exact h9.2));first|done|fail):p:=h
theorem den (a0:Aid) (a1:Aid) (a2:Int) (hb0:bdAid a0) (hb1:bdAid a1):Den Tryz.prog 5 [.agg (eAid a0),.agg (eAid a1),.int .i64 a2] (.tup [.bool ((zid a0 a1 a2).1),.int .i64 ((zid a0 a1 a2).2)]):=by
 generalize hR:zid a0 a1 a2=r;unfold zid at hR;refine di Tryz.func5 Tryz.ntmps5 Tryz.results5 ?_;intro c hL hc hk;obtain⟨hL0,hL1,hL2,_⟩:=hL;have hw0:bwAid a0:=ydb a0 hL0;have hw1:bwAid a1:=ydb a1 hL1;clear hL0 hL1 hL2;simp only[pars,Nat.zero_add];iterate 2 refine rS ?_
 refine AWP.cond rfl (fun hb => ?_) (fun hb => ?_)
 ·replace hR:=ct hR
  refine rS ?_;refine AWP.ret ?_;subst hR;exact es
 ·replace hR:=cf hR
  refine rS ?_;refine AWP.cond rfl (fun hb => ?_) (fun hb => ?_)
  ·replace hR:=ct hR
   refine rS ?_;refine AWP.ret ?_;subst hR;exact es
  ·replace hR:=cf hR
   refine rS ?_;refine AWP.ret ?_;subst hR;exact es
end N5
def D_zid : DF
 | [x0,x1,x2]=>some (.tup [.bool ((zid (rdG dAid x0) (rdG dAid x1) (rdI x2)).1),.int .i64 ((zid (rdG dAid x0) (rdG dAid x1) (rdI x2)).2)],false,[wG eAid dAid x0,wG eAid dAid x1,wI .i64 x2,bdAid (rdG dAid x0),bdAid (rdG dAid x1)])
 | _=>none
theorem ymp:OkD Tryz.prog 5 D_zid:=by unfold D_zid;exact dk N5.den
theorem y2w {a:Aid} (hb:bdAid a) (h:zqb a=true):zi a.Light=true:=by
 have hl:a.Light.Colors.length<1099511627776:=hb.2.2.1.2.2;rw[<- yog a.Light (by omega)];unfold zqb at h
 cases hv:zcc a.Light with
 | true=>rfl
 | false=>rw[hv]at h;cases h
def zjd (a0:Aid) (a1:Aid) (a2:Int):(Bool×Int):=
 (bif ((!(zpe a0)) || (!(zpe a1)))then(false,1)else(bif (!(zve a2))then(false,2)else((((zqb a0) && (zqb a1)) && (zjc a0.Light a1.Light a2)),0)))
namespace N7
theorem DD:DOk Tryz.prog (Go.Ab.DD [(19,dP D_zpe),(20,dP D_zve),(21,dP D_zqb),(22,dP D_zjc)]):=ya ydw.e <| ya yru.e <| ya y4o.e <| ya ypw.e <| ye _
theorem dn:type_of% (And.intro @D_zpe.eq_1 <| And.intro @D_zve.eq_1 <| And.intro @D_zqb.eq_1 <| @D_zjc.eq_1):=by and_intros<;>intros<;>rfl
theorem o1 {p:Prop} (h:p:=by(first|(have h9:(zqb a0 && zqb a1)=true:=(by assumption);rw[Bool.and_eq_true]at h9;first|exact hl0 h9.1|exact hl1 h9.2)|(exact hb0.2.2.1)|(exact hb1.2.2.1));first|done|fail):p:=h
theorem den (a0:Aid) (a1:Aid) (a2:Int) (hb0:bdAid a0) (hb1:bdAid a1):Den Tryz.prog 7 [.agg (eAid a0),.agg (eAid a1),.int .i64 a2] (.tup [.bool ((zjd a0 a1 a2).1),.int .i64 ((zjd a0 a1 a2).2)]):=by
 generalize hR:zjd a0 a1 a2=r;unfold zjd at hR;refine di Tryz.func7 Tryz.ntmps7 Tryz.results7 ?_;intro c hL hc hk;obtain⟨hL0,hL1,hL2,_⟩:=hL;have hw0:bwAid a0:=ydb a0 hL0;have hw1:bwAid a1:=ydb a1 hL1;clear hL0 hL1 hL2;simp only[pars,Nat.zero_add];have hl0:=fun h:zqb a0=true=>y2w hb0 h
 have hl1:=fun h:zqb a1=true=>y2w hb1 h
 iterate 2 refine rS ?_
 refine AWP.cond rfl (fun hb => ?_) (fun hb => ?_)
 ·replace hR:=ct hR
  refine rS ?_;refine AWP.ret ?_;subst hR;exact es
 ·replace hR:=cf hR
  refine rS ?_;refine AWP.cond rfl (fun hb => ?_) (fun hb => ?_)
  ·replace hR:=ct hR
   refine rS ?_;refine AWP.ret ?_;subst hR;exact es
  ·replace hR:=cf hR
   refine rS ?_;refine AWP.ret ?_;subst hR;exact es
end N7
def D_zjd : DF
 | [x0,x1,x2]=>some (.tup [.bool ((zjd (rdG dAid x0) (rdG dAid x1) (rdI x2)).1),.int .i64 ((zjd (rdG dAid x0) (rdG dAid x1) (rdI x2)).2)],false,[wG eAid dAid x0,wG eAid dAid x1,wI .i64 x2,bdAid (rdG dAid x0),bdAid (rdG dAid x1)])
 | _=>none
theorem yso:OkD Tryz.prog 7 D_zjd:=by unfold D_zjd;exact dk N7.den
def zkf (a0:Aid) (a1:Aid) (a2:Int):Bool:=
 (bif decide ((zbb a0 1048576)<0)then true else(bif decide ((zbb a1 (zbb a0 1048576))<0)then true else(bif ((!(((zjd (zv a0) (zv a1) a2).1) == ((zid (zv a0) (zv a1) a2).1))) || (((zjd (zv a0) (zv a1) a2).2) != ((zid (zv a0) (zv a1) a2).2)))then false else(bif (!(zhd (zv a0) (zv a0)))then false else(bif (!(zhd (zv a1) (zv a1)))then false else true)))))
namespace N3
theorem DD:DOk Tryz.prog (Go.Ab.DD [(4,dP D_zbb),(5,dP D_zid),(6,dP D_zv),(7,dP D_zjd),(8,dP D_zhd)]):=ya yoo.e <| ya ymp.e <| ya ypy.e <| ya yso.e <| ya yjp.e <| ye _
theorem DZ:DOk Tryz.prog (Go.Ab.DD [(4,dP D_zbb),(5,dP D_zid),(6,dP Dz_zv),(7,dP D_zjd),(8,dP D_zhd)]):=ya yoo.e <| ya ymp.e <| ya ydu.e <| ya yso.e <| ya yjp.e <| ye _
theorem dn:type_of% (And.intro @D_zbb.eq_1 <| And.intro @D_zid.eq_1 <| And.intro @D_zv.eq_1 <| And.intro @D_zjd.eq_1 <| And.intro @D_zhd.eq_1 <| @Dz_zv.eq_1):=by and_intros<;>intros<;>rfl
theorem ol:type_of% (@y1x):=@y1x
theorem o1 {p:Prop} (h:p:=by(first|((try simp only[ol]);first|(have h9:=hG0 (by assumption);first|exact h9.2|exact h9.1|omega)|(have h9:=hG1 (by assumption);first|exact h9.2|exact h9.1|omega)));first|done|fail):p:=h
set_option maxHeartbeats 4000000 in
set_option maxRecDepth 20000 in
theorem _root_.Go.Ab.zkf_den (a0:Aid) (a1:Aid) (a2:Int)  : Den Tryz.prog 3 [.agg (eAid a0),.agg (eAid a1),.int .i64 a2] (.bool (zkf a0 a1 a2)):=by
 generalize hR:zkf a0 a1 a2=r;unfold zkf at hR;refine di Tryz.func3 Tryz.ntmps3 Tryz.results3 ?_;intro c hL hc hk;obtain⟨hL0,hL1,hL2,_⟩:=hL;have hw0:bwAid a0:=ydb a0 hL0;have hw1:bwAid a1:=ydb a1 hL1;clear hL0 hL1 hL2;simp only[pars,Nat.zero_add];have hf0:=yff a0 (1048576) (by omega) (by omega) hw0;have hf1:=yff a1 (zbb a0 (1048576)) (by omega) (by omega) hw1;have hG0:decide (zbb a0 (1048576)<0)=false->y4r a0/\bdAid a0:=fun h=>⟨hf0.2.2 (of_decide_eq_false h),ysg a0 (hf0.2.2 (of_decide_eq_false h))⟩
 have hG1:decide (zbb a1 (zbb a0 (1048576))<0)=false->y4r a1/\bdAid a1:=fun h=>⟨hf1.2.2 (of_decide_eq_false h),ysg a1 (hf1.2.2 (of_decide_eq_false h))⟩
 iterate 4 refine rS ?_
 refine AWP.cond rfl (fun hb => ?_) (fun hb => ?_)
 ·replace hR:=ct hR
  refine rS ?_;refine AWP.ret ?_;subst hR;exact es
 ·replace hR:=cf hR
  iterate 2 refine rS ?_
  refine AWP.cond rfl (fun hb => ?_) (fun hb => ?_)
  ·replace hR:=ct hR
   refine rS ?_;refine AWP.ret ?_;subst hR;exact es
  ·replace hR:=cf hR
   refine AWP.skip ?_;refine AWP.seq ?_;refine AWP.regP mixed G_ok DD hc 10 [0,2,4] (.alt 1 [] [2,4] (.alt 3 [5,6,7,8] [4,5,6,7,8] (.alt 9 [] [8] .leaf .stop) .stop) .stop) (by kernel_rfl) (by kernel_rfl) (by kernel_rfl) (fun K hK => ?_);simp only[yan,runN,runP,ywc,nthO,ea,absV,absVL,cput,gv,sv,dn,reduceCtorEq,reduceIte,Nat.reduceBEq,Nat.reduceAdd,Nat.reduceEqDiff,Nat.reduceLT,Nat.reduceLeDiff,Nat.reduceMul,Nat.reduceSub,BEq.rfl,beq_self_eq_true,Int.reduceToNat];repeat' apply And.intro
   all_goals first|refine hK _ ?_|exact ot
   all_goals clear hK K
   iterate 4 refine rS ?_
   refine AWP.cond rfl (fun hb => ?_) (fun hb => ?_)
   ·replace hR:=ct hR
    refine rS ?_;refine AWP.ret ?_;subst hR;exact es
   ·replace hR:=cf hR
    refine rZ 3 ?_;refine AWP.cond rfl (fun hb => ?_) (fun hb => ?_)
    ·replace hR:=ct hR
     refine rS ?_;refine AWP.ret ?_;subst hR;exact es
    ·replace hR:=cf hR
     refine rZ 3 ?_;refine AWP.cond rfl (fun hb => ?_) (fun hb => ?_)
     ·replace hR:=ct hR
      refine rS ?_;refine AWP.ret ?_;subst hR;exact es
     ·replace hR:=cf hR
      refine rS ?_;refine AWP.ret ?_;subst hR;exact es
end N3
theorem yjv {a b:Aid} {w:Int} (ha:aidP a) (hb:aidP b) (ba:bdAid a) (bb:bdAid b):zjd a b w=zid a b w:=by
 have hla:a.Light.Colors.length<9223372036854775808:=by have h:a.Light.Colors.length<1099511627776:=ba.2.2.1.2.2;omega
 have hlb:b.Light.Colors.length<9223372036854775808:=by have h:b.Light.Colors.length<1099511627776:=bb.2.2.1.2.2;omega
 have hsa:a.Sectors.length<9223372036854775807:=by have h:a.Sectors.length<1099511627776:=ba.2.2.2.1;omega
 have hsb:b.Sectors.length<9223372036854775807:=by have h:b.Sectors.length<1099511627776:=bb.2.2.2.1;omega
 unfold zjd zid;rw[yei a hla hsa,yei b hlb hsb]
 cases h1:zrb a with
 | false=>rfl
 | true=>
  cases h2:zrb b with
  | false=>rfl
  | true=>
   simp only[Bool.not_true,Bool.or_self,cond_false]
   have ht:zve w=zyd w:=by
    unfold zve zyd zd zb;rfl
   rw[ht]
   cases h3:zyd w with
   | false=>rfl
   | true=>
    simp only[Bool.not_true,cond_false];unfold zgf;rw[yjx h1 hla,yjx h2 hlb]
    cases h4:zhc a with
    | false=>rfl
    | true=>
     cases h5:zhc b with
     | false=>rfl
     | true=>
      have hw:0<=w/\w<=20:=by
       unfold zyd zb at h3;simpa using h3
      rw[y9m ((yih h1).2.2.2.2.2.2.2.1 h4) ((yih h2).2.2.2.2.2.2.2.1 h5) ba.2.2.1 bb.2.2.1 hw]
theorem ykg (a0 a1:Aid) (a2:Int) (hb0:bwAid a0) (hb1:bwAid a1):zkf a0 a1 a2=true:=by
 unfold zkf;have f0:=yff a0 1048576 (by omega) (by omega) hb0;by_cases c0:zbb a0 1048576<0
 ·rw[decide_eq_true c0];rfl
 rw[decide_eq_false c0];simp only[cond_false];have f1:=yff a1 (zbb a0 1048576) (by omega) (by omega) hb1;by_cases c1:zbb a1 (zbb a0 1048576)<0
 ·rw[decide_eq_true c1];rfl
 rw[decide_eq_false c1];simp only[cond_false];have k0:=f0.2.2 c0;have k1:=f1.2.2 c1;simp only[y1x,yzx];rw[yjv (yys hb0 k0) (yys hb1 k1) (ysg a0 k0) (ysg a1 k1)];simp
end Go.Ab
