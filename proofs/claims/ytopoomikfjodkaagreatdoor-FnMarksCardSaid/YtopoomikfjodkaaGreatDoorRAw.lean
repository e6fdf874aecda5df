/- A part of a proof: walks of functions and lemmas of our own. No conditions. -/
import Derived.Test.YtopoomikfjodkaaGreatDoorRAl
import Derived.Test.YtopoomikfjodkaaGreatDoorRAv
import Derived.Test.YtopoomikfjodkaaGreatDoorRAq
import Derived.Test.YtopoomikfjodkaaGreatDoorRAm
import Derived.Test.YtopoomikfjodkaaGreatDoorRAp
set_option linter.unusedSectionVars false
set_option linter.unusedVariables false
set_option linter.unusedSimpArgs false
set_option maxHeartbeats 1000000
namespace Go.Ab
open Go Go.Proofs
def zic (a0:Int):(List UInt8):=
 (zkb a0 ([[110,111,110,101],[108,101,102,116],[114,105,103,104,116],[110,111,114,116,104],[101,97,115,116],[115,111,117,116,104],[119,101,115,116],[100,97,110,103,101,114],[115,97,102,101],[115,112,101,99,105,97,108]]:List (List UInt8)))
namespace N22
theorem DD:DOk Tryz.prog (Go.Ab.DD [(90,dP D_zkb)]):=ya yvf.e <| yc _
theorem dn:type_of% (@D_zkb.eq_1):=by and_intros<;>intros<;>rfl
theorem lx {p:Prop} (h:p:=by(exact lxx);first|done|fail):p:=h
theorem den (a0:Int)  : Den Tryz.prog 22 [.int .i64 a0] (.str (zic a0)):=by
 generalize hR:zic a0=r
 unfold zic at hR
 refine di Tryz.func22 Tryz.ntmps22 Tryz.results22 ?_
 intro c hL hc hk
 clear hL
 simp only[pars,Nat.zero_add]
 iterate 2 refine rS ?_
 refine AWP.ret ?_
 subst hR
 exact es
end N22
def D_zic : DF
 | [x0]=>some (.str (zic (rdI x0)),false,[wI .i64 x0])
 | _=>none
theorem yoi:OkD Tryz.prog 22 D_zic:=by unfold D_zic;exact dk N22.den
end Go.Ab

namespace Go.Ab
open Go Go.Proofs
theorem ynm (l:List (List UInt8)) (h:∀ x∈l,x.length≤100) (n:Nat):(l.getD n default).length≤100:=by
 rw[List.getD_eq_getElem?_getD]
 cases hg:l[n]? with
 | none=>show(0:Nat)≤100;omega
 | some x=>exact h x (List.mem_of_getElem? hg)
theorem yhl (k:Int) (l:List (List UInt8)) (h:∀ x∈l,x.length≤100):(zkb k l).length≤100:=by
 unfold zkb
 simp only[Bool.cond_eq_ite]
 split
 ·simp
 ·exact ynm l h _
end Go.Ab

namespace Go.Ab
open Go Go.Proofs
def zcf (a0:Int):Bool:=
 (ze a0 2000 2273)
namespace N313
theorem DD:DOk Tryz.prog (Go.Ab.DD [(181,dP D_ze)]):=ya y9b.e <| yc _
theorem dn:type_of% (@D_ze.eq_1):=by and_intros<;>intros<;>rfl
theorem ol:type_of% (@ze.eq_1):=@ze.eq_1
theorem den (a0:Int)  : Den Tryz.prog 313 [.int .i64 a0] (.bool (zcf a0)):=by
 generalize hR:zcf a0=r
 unfold zcf at hR
 refine di Tryz.func313 Tryz.ntmps313 Tryz.results313 ?_
 intro c hL hc hk
 clear hL
 simp only[pars,Nat.zero_add]
 iterate 2 refine rS ?_
 refine AWP.ret ?_
 subst hR
 exact es
end N313
def D_zcf : DF
 | [x0]=>some (.bool (zcf (rdI x0)),false,[wI .i64 x0])
 | _=>none
theorem yqx:OkD Tryz.prog 313 D_zcf:=by unfold D_zcf;exact dk N313.den
end Go.Ab

namespace Go.Ab
open Go Go.Proofs
def zle (a0:Int):Bool:=
 ((zcf a0) && ((((a0.tmod 4) == 0) && ((a0.tmod 100) != 0)) || ((a0.tmod 400) == 0)))
namespace N344
theorem DD:DOk Tryz.prog (Go.Ab.DD [(313,dP D_zcf)]):=ya yqx.e <| yc _
theorem dn:type_of% (@D_zcf.eq_1):=by and_intros<;>intros<;>rfl
theorem den (a0:Int)  : Den Tryz.prog 344 [.int .i64 a0] (.bool (zle a0)):=by
 generalize hR:zle a0=r
 unfold zle at hR
 refine di Tryz.func344 Tryz.ntmps344 Tryz.results344 ?_
 intro c hL hc hk
 clear hL
 simp only[pars,Nat.zero_add]
 iterate 2 refine rS ?_
 refine AWP.ret ?_
 subst hR
 exact es
end N344
def D_zle : DF
 | [x0]=>some (.bool (zle (rdI x0)),false,[wI .i64 x0])
 | _=>none
theorem y9x:OkD Tryz.prog 344 D_zle:=by unfold D_zle;exact dk N344.den
end Go.Ab

namespace Go.Ab
open Go Go.Proofs
def zvb (a0:Int):Int:=
 (bif (zle a0)then 366 else 365)
namespace N295
theorem DD:DOk Tryz.prog (Go.Ab.DD [(344,dP D_zle)]):=ya y9x.e <| yc _
theorem dn:type_of% (@D_zle.eq_1):=by and_intros<;>intros<;>rfl
theorem den (a0:Int)  : Den Tryz.prog 295 [.int .i64 a0] (.int .i64 (zvb a0)):=by
 generalize hR:zvb a0=r
 unfold zvb at hR
 refine di Tryz.func295 Tryz.ntmps295 Tryz.results295 ?_
 intro c hL hc hk
 clear hL
 simp only[pars,Nat.zero_add]
 iterate 2 refine rS ?_
 refine AWP.cond rfl (fun hb => ?_) (fun hb => ?_)
 ·replace hR:=ct hR
  refine rS ?_
  refine AWP.ret ?_
  subst hR
  exact es
 ·replace hR:=cf hR
  refine rS ?_
  refine AWP.ret ?_
  subst hR
  exact es
end N295
def D_zvb : DF
 | [x0]=>some (.int .i64 (zvb (rdI x0)),false,[wI .i64 x0])
 | _=>none
theorem ygw:OkD Tryz.prog 295 D_zvb:=by unfold D_zvb;exact dk N295.den
end Go.Ab

namespace Go.Ab
open Go Go.Proofs
def zfb (a0:Int) (a1:Int):Int:=
 (bif ((a1 == 2) && (zle a0))then 29 else([31,28,31,30,31,30,31,31,30,31,30,31]:List Int).getD ((IntKind.wrap .i64 (a1-1)).toNat) 0)
namespace N296
theorem DD:DOk Tryz.prog (Go.Ab.DD [(344,dP D_zle)]):=ya y9x.e <| yc _
theorem dn:type_of% (@D_zle.eq_1):=by and_intros<;>intros<;>rfl
theorem den (a0:Int) (a1:Int) (hp0:1≤a1) (hp1:a1≤12):Den Tryz.prog 296 [.int .i64 a0,.int .i64 a1] (.int .i64 (zfb a0 a1)):=by
 generalize hR:zfb a0 a1=r
 unfold zfb at hR
 refine di Tryz.func296 Tryz.ntmps296 Tryz.results296 ?_
 intro c hL hc hk
 clear hL
 simp only[pars,Nat.zero_add]
 iterate 2 refine rS ?_
 refine AWP.cond rfl (fun hb => ?_) (fun hb => ?_)
 ·replace hR:=ct hR
  refine rS ?_
  refine AWP.ret ?_
  subst hR
  exact es
 ·replace hR:=cf hR
  refine rS ?_
  refine AWP.ret ?_
  subst hR
  exact es
end N296
def D_zfb : DF
 | [x0,x1]=>some (.int .i64 (zfb (rdI x0) (rdI x1)),false,[wI .i64 x0,wI .i64 x1,1≤(rdI x1),(rdI x1)≤12])
 | _=>none
theorem yuq:OkD Tryz.prog 296 D_zfb:=by unfold D_zfb;exact dk N296.den
end Go.Ab

namespace Go.Ab
open Go Go.Proofs
theorem ydk (y:Int):zvb y=365∨zvb y=366:=by
 unfold zvb
 cases zle y<;>simp
end Go.Ab

namespace Go.Ab
open Go Go.Proofs
def ygu (y m:Int):Int:=(bif zle y && decide (m≤2)then 1 else 0)+([365,334,306,275,245,214,184,153,122,92,61,31]:List Int).getD (m-1).toNat 0
theorem yag (y : Int) : zfb y 1 = 31 ∧ zfb y 2 = (bif zle y then 29 else 28) ∧ zfb y 3 = 31 ∧ zfb y 4 = 30 ∧ zfb y 5 = 31 ∧ zfb y 6 = 30
  ∧ zfb y 7=31∧zfb y 8=31∧zfb y 9=30∧zfb y 10=31∧zfb y 11=30∧zfb y 12=31:=by
 simp[zfb,IntKind.wrap_i64]
theorem yis (y:Int):ygu y 1=zvb y:=by
 unfold zvb ygu
 cases zle y<;>rfl
theorem yxj (y m d:Int) (h1:1≤m) (h2:m≤12) (h3:d<ygu y m) (h4:zfb y m≤d):m≤11∧d-zfb y m<ygu y (m+1)∧28≤zfb y m∧zfb y m≤31:=by
 obtain⟨e1,e2,e3,e4,e5,e6,e7,e8,e9,e10,e11,e12⟩:=yag y
 rcases yhf h1 h2 with rfl|rfl|rfl|rfl|rfl|rfl|rfl|rfl|rfl|rfl|rfl|rfl<;>
  simp only[*]at h4 ⊢ <;> simp[ygu]at h3 ⊢ <;> cases hl:zle y<;>simp_all<;>omega
theorem ymg (y m:Int) (h1:1≤m) (h2:m≤12):28≤zfb y m∧zfb y m≤31:=by
 obtain⟨e1,e2,e3,e4,e5,e6,e7,e8,e9,e10,e11,e12⟩:=yag y
 rcases yhf h1 h2 with rfl|rfl|rfl|rfl|rfl|rfl|rfl|rfl|rfl|rfl|rfl|rfl<;>simp only[*]<;>cases zle y<;>simp
end Go.Ab

namespace Go.Ab
open Go Go.Proofs
def y6z (a0:Int) (s1:Int×Int):Except (Sum ((Int×Int×Int)) (Int×Int)) (Int×Int):=
 (bif decide ((zvb s1.2)≤s1.1)then .ok (IntKind.wrap .i64 (s1.1-(zvb s1.2)),IntKind.wrap .i64 (s1.2+1))else .error (.inr (s1.1,s1.2)))
def y7z (a0:Int) (s1:Int×Int) (s2:Int×Int):Except (Sum ((Int×Int×Int)) (Int×Int)) (Int×Int):=
 (bif decide ((zfb s1.2 s2.2)≤s2.1)then .ok (IntKind.wrap .i64 (s2.1-(zfb s1.2 s2.2)),IntKind.wrap .i64 (s2.2+1))else .error (.inr (s2.1,s2.2)))
def zw (a0:Int):(Int×Int×Int):=
 (match y3 (y6z a0) (((a0).toNat)+1) (a0,2000)with|.error (.inl e)=>e|.error (.inr s1)=>(match y3 (y7z a0 s1) (((s1.1).toNat)+1) (s1.1,1)with|.error (.inl e)=>e|.error (.inr s2)=>(s1.2,s2.2,IntKind.wrap .i64 (s2.1+1))|.ok _=>default)|.ok _=>default)
namespace N228
theorem DD:DOk Tryz.prog (Go.Ab.DD [(295,dP D_zvb),(296,dP D_zfb)]):=ya ygw.e <| ya yuq.e <| yc _
theorem dn:type_of% (And.intro @D_zvb.eq_1 <| @D_zfb.eq_1):=by and_intros<;>intros<;>rfl
theorem den (a0:Int) (hp0:0≤a0) (hp1:a0≤99999):Den Tryz.prog 228 [.int .i64 a0] (.tup [.int .i64 ((zw a0).1),.int .i64 ((zw a0).2.1),.int .i64 ((zw a0).2.2)]):=by
 generalize hR:zw a0=r
 unfold zw at hR
 refine di Tryz.func228 Tryz.ntmps228 Tryz.results228 ?_
 intro c hL hc hk
 clear hL
 simp only[pars,Nat.zero_add]
 iterate 2 refine rS ?_
 refine AWP.seq ?_
 refine AWP.block ?_
 generalize hz1:y3 (y6z a0) (((a0).toNat)+1) (a0,2000)=z1 at hR
 refine AWP.whileW (y6z a0) (fun s1=>⟨[(0,.int .i64 s1.1),(5,.int .i64 s1.2),(6,.int .i64 1)],[]⟩) (fun s1=>0≤s1.1∧2000≤s1.2∧s1.2-2000+s1.1≤a0) (fun s1=>(s1.1).toNat) (((a0).toNat)+1) (a0,2000) [] hz1 m0 wt sm ?_
 clear hz1
 intro s1 k1 hW1 hm1 hz1
 simp only[y6z]at hz1
 refine rS ?_
 refine AWP.cond rfl (fun hb => ?_) (fun hb => ?_)
 ·simp only[hb,cond_true]at hz1
  iterate 2 refine rS ?_
  exact⟨_,[],by(have h9:=ydk s1.2;simp only[ob,ln,ol]at *;omega),by(have h9:=ydk s1.2;simp only[ob,ln,ol]at *;omega),hz1,sm⟩
 ·simp only[hb,cond_false]at hz1
  refine AWP.exit ?_
  refine yb ?_
  subst hz1;dsimp only at hR
  refine AWP.seq ?_
  refine AWP.block ?_
  generalize hz2:y3 (y7z a0 (s1.1,s1.2)) (((s1.1).toNat)+1) (s1.1,1)=z2 at hR
  refine AWP.whileW (y7z a0 (s1.1,s1.2)) (fun s2=>⟨[(0,.int .i64 s2.1),(5,.int .i64 s1.2),(6,.int .i64 s2.2)],[]⟩) (fun s2=>0≤s2.1∧s2.1≤99999∧1≤s2.2∧s2.2≤12∧s2.1<ygu s1.2 s2.2) (fun s2=>(s2.1).toNat) (((s1.1).toNat)+1) (s1.1,1) [] hz2 m0 (by(have h9:=ydk s1.2;have h8:=yis s1.2;simp only[ob,ln,ol]at *;omega)) sm ?_
  clear hz2
  intro s2 k2 hW2 hm2 hz2
  simp only[y7z]at hz2
  refine rS ?_
  refine AWP.cond rfl (fun hb => ?_) (fun hb => ?_)
  ·simp only[hb,cond_true]at hz2
   iterate 2 refine rS ?_
   exact⟨_,[],by(have hbq:=of_decide_eq_true hb;have h9:=yxj s1.2 s2.2 s2.1 (by omega) (by omega) (by omega) hbq;have e1:=y8b (n:=s2.1-zfb s1.2 s2.2) (by omega) (by omega);have e2:=y8b (n:=s2.2+1) (by omega) (by omega);simp only[e1,e2];omega),by(have hbq:=of_decide_eq_true hb;have h9:=yxj s1.2 s2.2 s2.1 (by omega) (by omega) (by omega) hbq;have e1:=y8b (n:=s2.1-zfb s1.2 s2.2) (by omega) (by omega);have e2:=y8b (n:=s2.2+1) (by omega) (by omega);simp only[e1,e2];omega),hz2,sm⟩
  ·simp only[hb,cond_false]at hz2
   refine AWP.exit ?_
   refine yb ?_
   subst hz2;dsimp only at hR
   refine rS ?_
   refine AWP.ret ?_
   subst hR
   exact es
end N228
def D_zw : DF
 | [x0]=>some (.tup [.int .i64 ((zw (rdI x0)).1),.int .i64 ((zw (rdI x0)).2.1),.int .i64 ((zw (rdI x0)).2.2)],false,[wI .i64 x0,0≤(rdI x0),(rdI x0)≤99999])
 | _=>none
theorem ytab:OkD Tryz.prog 228 D_zw:=by unfold D_zw;exact dk N228.den
end Go.Ab

namespace Go.Ab
open Go Go.Proofs
theorem ygv {y:Int} (h1:2000≤y) (h2:y≤2273):zle y=yhb y:=by
 unfold zle yhb zcf ze
 simp[h1,h2]
theorem y7k {y m:Int} (hy1:2000≤y) (hy2:y≤2273) (h1:1≤m) (h2:m≤12):zfb y m=mdD (yhb y) m.toNat:=by
 obtain⟨e1,e2,e3,e4,e5,e6,e7,e8,e9,e10,e11,e12⟩:=yag y
 rw[ygv hy1 hy2]at e2
 rcases yhf h1 h2 with rfl|rfl|rfl|rfl|rfl|rfl|rfl|rfl|rfl|rfl|rfl|rfl<;>simp only[*]<;>cases yhb y<;>rfl
theorem yddb (a:Int) (h1:0≤a) (h2:a≤99999):∃ y m d,zw a=(y,m,d)∧y≤2273∧ylk a y m d:=by
 have L1 := yxl (body := y6z a) (I := fun s => 0 ≤ s.1 ∧ 2000 ≤ s.2 ∧ ybD s.2 + s.1 = a)
  (Q:=fun r=>∃ s:Int×Int,r=.inr s∧0≤s.1∧2000≤s.2∧ybD s.2+s.1=a∧s.1<zvb s.2) (M:=fun s=>s.1.toNat) (by
   rintro⟨d,y⟩ ⟨i1,i2,i3⟩
   simp only[y6z]at i1 i2 i3 ⊢
   have hy:=ydk y
   have hle:=y7o (y:=y) (by omega)
   have hnn:=yll i2
   by_cases hc:zvb y≤d
   ·have hyd:zvb y=365+(bif yhb y then 1 else 0):=by
     unfold zvb;rw[ygv i2 hle];cases yhb y<;>rfl
    have hn:=y2m y i2
    simp only[hc,decide_true,cond_true]
    rw[y8b (by omega) (by omega),y8b (by omega) (by omega)]
    refine⟨⟨by omega,by omega,by omega⟩,by omega⟩
   ·simp only[hc,decide_false,cond_false]
    exact⟨_,rfl,i1,i2,i3,by show d<zvb y;omega⟩) (a.toNat+1) (a,2000) ⟨h1,by show(2000:Int)≤2000;omega,by simp[ybD]⟩ (by show a.toNat<a.toNat+1;omega)
 obtain⟨r,e1,s,rfl,q1,q2,q3,q4⟩:=L1
 have hle:=y7o (y:=s.2) (by omega)
 have hnn:=yll q2
 have hyd:=ydk s.2
 have L2 := yxl (body := y7z a s) (I := fun t => 0 ≤ t.1 ∧ 1 ≤ t.2 ∧ t.2 ≤ 12 ∧ t.1 < ygu s.2 t.2 ∧ (mbD (yhb s.2) t.2.toNat : Int) + t.1 = s.1)
  (Q:=fun r=>∃ t:Int×Int,r=.inr t∧0≤t.1∧1≤t.2∧t.2≤12∧t.1<zfb s.2 t.2∧(mbD (yhb s.2) t.2.toNat:Int)+t.1=s.1) (M:=fun t=>t.1.toNat) (by
   rintro⟨d,m⟩ ⟨i1,i2,i3,i4,i5⟩
   simp only[y7z]at i1 i2 i3 i4 i5 ⊢
   by_cases hc:zfb s.2 m≤d
   ·have hs:=yxj s.2 m d i2 i3 i4 hc
    have hm:=y7k q2 hle i2 i3
    have hn:=you (l:=yhb s.2) i2 hs.1
    simp only[hc,decide_true,cond_true]
    rw[y8b (by omega) (by omega),y8b (by omega) (by omega)]
    refine⟨⟨by omega,by omega,by omega,hs.2.1,by omega⟩,by omega⟩
   ·simp only[hc,decide_false,cond_false]
    exact⟨_,rfl,i1,i2,i3,by show d<zfb s.2 m;omega,i5⟩) (s.1.toNat+1) (s.1,1) ⟨q1,by show(1:Int)≤1;omega,by show(1:Int)≤12;omega,by rw[yis];exact q4,by show(mbD (yhb s.2) 1:Int)+s.1=s.1;rw[y5p];simp⟩ (by show s.1.toNat<s.1.toNat+1;omega)
 obtain⟨r2,e2,t,rfl,p1,p2,p3,p4,p5⟩:=L2
 have hm:=y7k q2 hle p2 p3
 have hw:IntKind.wrap .i64 (t.1+1)=t.1+1:=by
  have:=(yz1 (l:=yhb s.2) p2 p3)
  refine y8b (by omega) ?_
  cases hl:yhb s.2<;>simp only[hl,cond_true,cond_false]at * <;> omega
 refine⟨s.2,t.2,t.1+1,?_,hle,q2,p2,p3,by omega,by omega,by omega⟩
 unfold zw
 rw[e1]
 simp only
 rw[e2]
 simp only[hw]
theorem yd9 (a:Int) (h1:0≤a) (h2:a≤99999):2000≤(zw a).1∧(zw a).1≤2273∧1≤(zw a).2.1∧(zw a).2.1≤12∧1≤(zw a).2.2∧(zw a).2.2≤31:=by
 obtain⟨y,m,d,e,hy,h⟩:=yddb a h1 h2
 have hm:=yso (l:=yhb y) h.2.1 h.2.2.1
 rw[e]
 exact⟨h.1,hy,h.2.1,h.2.2.1,h.2.2.2.1,by show d≤31;have:=h.2.2.2.2.1;omega⟩
end Go.Ab

namespace Go.Ab
open Go Go.Proofs
def zdf (a0:Int) (a1:Int):(List UInt8):=
 (zof [48] (if 0<IntKind.wrap .i64 (a1-((zl a0).length:Int))then IntKind.wrap .i64 (a1-((zl a0).length:Int))else 0))++(zl a0)
namespace N118
theorem DD:DOk Tryz.prog (Go.Ab.DD [(107,dP D_zl),(222,dP D_zof)]):=ya yxe.e <| ya ym4.e <| yc _
theorem dn:type_of% (And.intro @D_zl.eq_1 <| @D_zof.eq_1):=by and_intros<;>intros<;>rfl
theorem ol:type_of% (@y6p):=@y6p
theorem gr {p:Prop} (h:p:=by(grind [ycc,y6p]);first|done|fail):p:=h
theorem den (a0:Int) (a1:Int) (hp0 : -1000000000000≤a0) (hp1:a0≤1000000000000) (hp2:0≤a1) (hp3:a1≤4):Den Tryz.prog 118 [.int .i64 a0,.int .i64 a1] (.str (zdf a0 a1)):=by
 generalize hR:zdf a0 a1=r
 unfold zdf at hR
 refine di Tryz.func118 Tryz.ntmps118 Tryz.results118 ?_
 intro c hL hc hk
 clear hL
 simp only[pars,Nat.zero_add]
 have hl0:=ycc a0
 iterate 3 refine rS ?_
 refine AWP.ret ?_
 subst hR
 exact es
end N118
def D_zdf : DF
 | [x0,x1]=>some (.str (zdf (rdI x0) (rdI x1)),false,[wI .i64 x0,wI .i64 x1,-1000000000000≤(rdI x0),(rdI x0)≤1000000000000,0≤(rdI x1),(rdI x1)≤4])
 | _=>none
theorem yh6:OkD Tryz.prog 118 D_zdf:=by unfold D_zdf;exact dk N118.den
end Go.Ab

namespace Go.Ab
open Go Go.Proofs
theorem ycp (a:Int) (h1:0≤a) (h2:a≤1000):(zdf a 2).length≤2000:=by
 have hl:=ycc a
 unfold zdf
 rw[List.length_append,y6p,IntKind.wrap_i64]
 simp only[List.length_cons,List.length_nil,Nat.zero_add,Nat.one_mul]
 split<;>omega
end Go.Ab

namespace Go.Ab
open Go Go.Proofs
def zld (a0:Int):Bool:=
 (ze a0 0 99999)
namespace N227
theorem DD:DOk Tryz.prog (Go.Ab.DD [(181,dP D_ze)]):=ya y9b.e <| yc _
theorem dn:type_of% (@D_ze.eq_1):=by and_intros<;>intros<;>rfl
theorem ol:type_of% (@ze.eq_1):=@ze.eq_1
theorem den (a0:Int)  : Den Tryz.prog 227 [.int .i64 a0] (.bool (zld a0)):=by
 generalize hR:zld a0=r
 unfold zld at hR
 refine di Tryz.func227 Tryz.ntmps227 Tryz.results227 ?_
 intro c hL hc hk
 clear hL
 simp only[pars,Nat.zero_add]
 iterate 2 refine rS ?_
 refine AWP.ret ?_
 subst hR
 exact es
end N227
def D_zld : DF
 | [x0]=>some (.bool (zld (rdI x0)),false,[wI .i64 x0])
 | _=>none
theorem ypp:OkD Tryz.prog 227 D_zld:=by unfold D_zld;exact dk N227.den
end Go.Ab

namespace Go.Ab
open Go Go.Proofs
def zv (a0:Int):(List UInt8):=
 (bif (!(zld a0))then[]else((((zl ((zw a0).1))++[45])++(zdf ((zw a0).2.1) 2))++[45])++(zdf ((zw a0).2.2) 2))
namespace N127
theorem DD:DOk Tryz.prog (Go.Ab.DD [(107,dP D_zl),(118,dP D_zdf),(227,dP D_zld),(228,dP D_zw)]):=ya yxe.e <| ya yh6.e <| ya ypp.e <| ya ytab.e <| yc _
theorem dn:type_of% (And.intro @D_zl.eq_1 <| And.intro @D_zdf.eq_1 <| And.intro @D_zld.eq_1 <| @D_zw.eq_1):=by and_intros<;>intros<;>rfl
theorem gr {p:Prop} (h:p:=by(grind [ycc]);first|done|fail):p:=h
theorem o0 {p:Prop} (h:p:=by(first|(have hb9:0≤a0∧a0≤99999:=(by have hb8:=hb;simp[zld,ze]at hb8;omega);have hr:=yd9 a0 hb9.1 hb9.2;have l1:=ycc (zw a0).1;have l2:=ycp (zw a0).2.1 (by omega) (by omega);have l3:=ycp (zw a0).2.2 (by omega) (by omega);(try simp only[List.length_append,List.length_cons,List.length_nil]);omega));first|done|fail):p:=h
theorem den (a0:Int)  : Den Tryz.prog 127 [.int .i64 a0] (.str (zv a0)):=by
 generalize hR:zv a0=r
 unfold zv at hR
 refine di Tryz.func127 Tryz.ntmps127 Tryz.results127 ?_
 intro c hL hc hk
 clear hL
 simp only[pars,Nat.zero_add]
 iterate 2 refine rS ?_
 refine AWP.cond rfl (fun hb => ?_) (fun hb => ?_)
 ·replace hR:=ct hR
  refine rS ?_
  refine AWP.ret ?_
  subst hR
  exact es
 ·replace hR:=cf hR
  iterate 2 refine rS ?_
  refine AWP.ret ?_
  subst hR
  exact es
end N127
def D_zv : DF
 | [x0]=>some (.str (zv (rdI x0)),false,[wI .i64 x0])
 | _=>none
theorem y7u:OkD Tryz.prog 127 D_zv:=by unfold D_zv;exact dk N127.den
end Go.Ab

namespace Go.Ab
open Go Go.Proofs
def y40 (a0:(List UInt8)) (i1:Nat) (s1:Int):Except ((Int×Bool)) (Int):=
 (bif (decide (((a0.getD i1 0).toNat:Int)<48) || decide (57<((a0.getD i1 0).toNat:Int)))then .error (0,false)else .ok (IntKind.wrap .i64 ((IntKind.wrap .i64 (10 * s1))+(IntKind.wrap .i64 (IntKind.wrap .u8 (((a0.getD i1 0).toNat:Int)-48))))))
def zu (a0:(List UInt8)):(Int×Bool):=
 (match ye (y40 a0) (a0.length-0) 0 0 with|.error e=>e|.ok s1=>(s1,(ze (a0.length:Int) 1 18)))
namespace N250
theorem DD:DOk Tryz.prog (Go.Ab.DD [(181,dP D_ze)]):=ya y9b.e <| yc _
theorem dn:type_of% (@D_ze.eq_1):=by and_intros<;>intros<;>rfl
theorem ol:type_of% (@ze.eq_1):=@ze.eq_1
theorem den (a0:(List UInt8))  : Den Tryz.prog 250 [.str a0] (.tup [.int .i64 ((zu a0).1),.bool ((zu a0).2)]):=by
 generalize hR:zu a0=r
 unfold zu at hR
 refine di Tryz.func250 Tryz.ntmps250 Tryz.results250 ?_
 intro c hL hc hk
 obtain⟨hL0,_⟩:=hL
 have hw0:a0.length<9223372036854775808:=Nat.lt_succ_of_le hL0
 clear hL0
 simp only[pars,Nat.zero_add]
 iterate 3 refine rS ?_
 refine AWP.block ?_
 generalize hz1:ye (y40 a0) (a0.length-0) 0 0=z1 at hR
 refine AWP.range (y40 a0) (fun i1 s1=>⟨[(0,.str a0),(4,.int .i64 s1),(5,.int .i64 (i1:Int))],[]⟩) (fun i1 s1=>True) (a0.length) 0 0 [] hz1 ot wt sm ?_
 clear hz1
 intro i1 s1 hi1 hW1 hz1
 refine rS ?_
 refine AWP.cond rfl (fun hb => ?_) (fun hb => ?_)
 ·have hlt1:i1<a0.length:=ot
  rw[yj hlt1]at hz1;simp only[y40]at hz1
  refine rS ?_
  refine AWP.cond rfl (fun hb => ?_) (fun hb => ?_)
  ·simp only[hb,cond_true]at hz1
   refine rS ?_
   refine AWP.ret ?_
   subst hz1
   dsimp only at hR
   subst hR
   exact es
  ·simp only[hb,cond_false]at hz1
   iterate 2 refine rS ?_
   exact⟨_,[],hlt1,wt,hz1,sm⟩
 ·obtain rfl:i1=a0.length:=ot
  rw[yi (Nat.le_refl _)]at hz1;subst hz1;dsimp only at hR
  refine AWP.exit ?_;refine yb ?_
  refine rS ?_
  refine AWP.ret ?_
  subst hR
  exact es
end N250
def D_zu : DF
 | [x0]=>some (.tup [.int .i64 ((zu (rdS x0)).1),.bool ((zu (rdS x0)).2)],false,[wS x0])
 | _=>none
theorem yabb:OkD Tryz.prog 250 D_zu:=by unfold D_zu;exact dk N250.den
end Go.Ab

namespace Go.Ab
open Go Go.Proofs
def zkg (a0:Int):Bool:=
 (ze a0 1 12)
namespace N314
theorem DD:DOk Tryz.prog (Go.Ab.DD [(181,dP D_ze)]):=ya y9b.e <| yc _
theorem dn:type_of% (@D_ze.eq_1):=by and_intros<;>intros<;>rfl
theorem ol:type_of% (@ze.eq_1):=@ze.eq_1
theorem den (a0:Int)  : Den Tryz.prog 314 [.int .i64 a0] (.bool (zkg a0)):=by
 generalize hR:zkg a0=r
 unfold zkg at hR
 refine di Tryz.func314 Tryz.ntmps314 Tryz.results314 ?_
 intro c hL hc hk
 clear hL
 simp only[pars,Nat.zero_add]
 iterate 2 refine rS ?_
 refine AWP.ret ?_
 subst hR
 exact es
end N314
def D_zkg : DF
 | [x0]=>some (.bool (zkg (rdI x0)),false,[wI .i64 x0])
 | _=>none
theorem y97:OkD Tryz.prog 314 D_zkg:=by unfold D_zkg;exact dk N314.den
end Go.Ab

namespace Go.Ab
open Go Go.Proofs
def yqm (a0:Int) (i1:Nat) (s1:Int):Except (Int) (Int):=
 .ok (IntKind.wrap .i64 (s1+(zvb (i1:Int))))
def zed (a0:Int):Int:=
 (match ye (yqm a0) ((a0).toNat-2000) 2000 0 with|.error e=>e|.ok s1=>s1)
namespace N358
theorem DD:DOk Tryz.prog (Go.Ab.DD [(295,dP D_zvb)]):=ya ygw.e <| yc _
theorem dn:type_of% (@D_zvb.eq_1):=by and_intros<;>intros<;>rfl
set_option maxHeartbeats 400000 in
set_option maxRecDepth 20000 in
theorem den (a0:Int) (hp0:2000≤a0) (hp1:a0≤2273):Den Tryz.prog 358 [.int .i64 a0] (.int .i64 (zed a0)):=by
 generalize hR:zed a0=r
 unfold zed at hR
 refine di Tryz.func358 Tryz.ntmps358 Tryz.results358 ?_
 intro c hL hc hk
 clear hL
 simp only[pars,Nat.zero_add]
 iterate 3 refine rS ?_
 refine AWP.block ?_
 generalize hz1:ye (yqm a0) ((a0).toNat-2000) 2000 0=z1 at hR
 refine AWP.range (yqm a0) (fun i1 s1=>⟨[(0,.int .i64 a0),(3,.int .i64 s1),(4,.int .i64 (i1:Int))],[]⟩) (fun i1 s1=>2000≤i1∧0≤s1∧s1≤366 * ((i1:Int)-2000)∧2000≤i1) ((a0).toNat) 2000 0 [] hz1 ot wt sm ?_
 clear hz1
 intro i1 s1 hi1 hW1 hz1
 refine rS ?_
 refine AWP.cond rfl (fun hb => ?_) (fun hb => ?_)
 ·have hlt1:i1<(a0).toNat:=ot
  rw[yj hlt1]at hz1;simp only[yqm]at hz1
  iterate 2 refine rS ?_
  exact⟨_,[],hlt1,by(have h9:=ydk (i1:Int);simp only[ob,ln,ol]at *;omega),hz1,sm⟩
 ·obtain rfl:i1=(a0).toNat:=ot
  rw[yi (Nat.le_refl _)]at hz1;subst hz1;dsimp only at hR
  refine AWP.exit ?_;refine yb ?_
  refine rS ?_
  refine AWP.ret ?_
  subst hR
  exact es
end N358
def D_zed : DF
 | [x0]=>some (.int .i64 (zed (rdI x0)),false,[wI .i64 x0,2000≤(rdI x0),(rdI x0)≤2273])
 | _=>none
theorem yi4:OkD Tryz.prog 358 D_zed:=by unfold D_zed;exact dk N358.den
end Go.Ab

namespace Go.Ab
open Go Go.Proofs
theorem yxd {ρ σ:Type} {b:Nat→σ→Except ρ σ} {I:Nat→σ→Prop} (hi:∀ i s,I i s→∃ t,b i s=.ok t∧I (i+1) t) :
  ∀ (k i:Nat) (s:σ),I i s→∃ t,ye b k i s=.ok t∧I (i+k) t
 | 0,i,s,h=>⟨s,rfl,h⟩
 | k+1,i,s,h=>by
  obtain⟨t,h1,h2⟩:=hi i s h
  obtain⟨u,h3,h4⟩:=yxd hi k (i+1) t h2
  refine⟨u,?_,by rw[show i+(k+1)=i+1+k by omega];exact h4⟩
  simp only[ye,h1,h3]
theorem ynbb (y:Int) (h1:2000≤y) (h2:y≤2273):0≤zed y∧zed y≤366 * 273:=by
 have hL:∀ k:Nat,k≤273→∃ t,ye (yqm y) k 2000 0=.ok t∧0≤t∧t≤366 * (k:Int):=by
  intro k hk
  obtain⟨t,e,_,h4⟩:=yxd (b:=yqm y) (I:=fun i t=>2000≤i∧(i≤2273→0≤t∧t≤366 * ((i:Int)-2000))) (fun i s hI=>by
   obtain⟨hI1,hI2⟩:=hI
   refine⟨_,rfl,by omega,fun hle => ?_⟩
   have h3:=hI2 (by omega)
   have h9:=ydk (i:Int)
   rw[IntKind.wrap_i64]
   omega) k 2000 0 ⟨by omega,fun _=>by omega⟩
  have:=h4 (by omega)
  exact⟨t,e,this.1,by omega⟩
 obtain⟨t,e,h3,h4⟩:=hL (y.toNat-2000) (by omega)
 unfold zed
 rw[e]
 simp only
 exact⟨h3,by omega⟩
end Go.Ab

namespace Go.Ab
open Go Go.Proofs
def y3s (a0:Int) (a1:Int) (a2:Int) (i1:Nat) (s1:Int):Except (Int) (Int):=
 .ok (IntKind.wrap .i64 (s1+(zfb a0 (i1:Int))))
def zme (a0:Int) (a1:Int) (a2:Int):Int:=
 (match ye (y3s a0 a1 a2) ((a1).toNat-1) 1 (IntKind.wrap .i64 ((IntKind.wrap .i64 ((zed a0)+a2))-1))with|.error e=>e|.ok s1=>s1)
namespace N315
theorem DD:DOk Tryz.prog (Go.Ab.DD [(296,dP D_zfb),(358,dP D_zed)]):=ya yuq.e <| ya yi4.e <| yc _
theorem dn:type_of% (And.intro @D_zfb.eq_1 <| @D_zed.eq_1):=by and_intros<;>intros<;>rfl
set_option maxHeartbeats 400000 in
set_option maxRecDepth 20000 in
theorem den (a0:Int) (a1:Int) (a2:Int) (hp0:2000≤a0) (hp1:a0≤2273) (hp2:1≤a1) (hp3:a1≤12) (hp4:1≤a2) (hp5:a2≤31):Den Tryz.prog 315 [.int .i64 a0,.int .i64 a1,.int .i64 a2] (.int .i64 (zme a0 a1 a2)):=by
 generalize hR:zme a0 a1 a2=r
 unfold zme at hR
 refine di Tryz.func315 Tryz.ntmps315 Tryz.results315 ?_
 intro c hL hc hk
 clear hL
 simp only[pars,Nat.zero_add]
 have hf9:=ynbb a0 hp0 hp1
 iterate 3 refine rS ?_
 refine AWP.block ?_
 generalize hz1:ye (y3s a0 a1 a2) ((a1).toNat-1) 1 (IntKind.wrap .i64 ((IntKind.wrap .i64 ((zed a0)+a2))-1))=z1 at hR
 refine AWP.range (y3s a0 a1 a2) (fun i1 s1=>⟨[(0,.int .i64 a0),(1,.int .i64 a1),(7,.int .i64 s1),(8,.int .i64 (i1:Int))],[]⟩) (fun i1 s1=>1≤i1∧0≤s1∧s1≤30+366 * 273+31 * ((i1:Int)-1)∧1≤i1) ((a1).toNat) 1 (IntKind.wrap .i64 ((IntKind.wrap .i64 ((zed a0)+a2))-1)) [] hz1 ot wt sm ?_
 clear hz1
 intro i1 s1 hi1 hW1 hz1
 refine rS ?_
 refine AWP.cond rfl (fun hb => ?_) (fun hb => ?_)
 ·have hlt1:i1<(a1).toNat:=ot
  rw[yj hlt1]at hz1;simp only[y3s]at hz1
  iterate 2 refine rS ?_
  exact⟨_,[],hlt1,by(have h9:=ymg a0 (i1:Int) (by omega) (by simp only[ob]at *;omega);simp only[ob,ln,ol]at *;omega),hz1,sm⟩
 ·obtain rfl:i1=(a1).toNat:=ot
  rw[yi (Nat.le_refl _)]at hz1;subst hz1;dsimp only at hR
  refine AWP.exit ?_;refine yb ?_
  refine rS ?_
  refine AWP.ret ?_
  subst hR
  exact es
end N315
def D_zme : DF
 | [x0,x1,x2]=>some (.int .i64 (zme (rdI x0) (rdI x1) (rdI x2)),false,[wI .i64 x0,wI .i64 x1,wI .i64 x2,2000≤(rdI x0),(rdI x0)≤2273,1≤(rdI x1),(rdI x1)≤12,1≤(rdI x2),(rdI x2)≤31])
 | _=>none
theorem y54:OkD Tryz.prog 315 D_zme:=by unfold D_zme;exact dk N315.den
end Go.Ab

namespace Go.Ab
open Go Go.Proofs
def zbe (a0:Int) (a1:Int) (a2:Int):(Int×Int):=
 (bif ((((!(zcf a0)) || (!(zkg a1))) || (!(ze a2 1 (zfb a0 a1)))) || (!(zld (zme a0 a1 a2))))then(0,2)else((zme a0 a1 a2),0))
namespace N252
theorem DD:DOk Tryz.prog (Go.Ab.DD [(181,dP D_ze),(227,dP D_zld),(296,dP D_zfb),(313,dP D_zcf),(314,dP D_zkg),(315,dP D_zme)]):=ya y9b.e <| ya ypp.e <| ya yuq.e <| ya yqx.e <| ya y97.e <| ya y54.e <| yc _
theorem dn:type_of% (And.intro @D_ze.eq_1 <| And.intro @D_zld.eq_1 <| And.intro @D_zfb.eq_1 <| And.intro @D_zcf.eq_1 <| And.intro @D_zkg.eq_1 <| @D_zme.eq_1):=by and_intros<;>intros<;>rfl
theorem ol:type_of% (@ze.eq_1):=@ze.eq_1
theorem o0 {p:Prop} (h:p:=by(first|(have h9:=ymg a0 a1;simp only[zcf,zkg,ze,Bool.not_or,Bool.not_not,Bool.and_eq_true,decide_eq_true_eq];refine⟨?_,?_⟩<;>intro h<;>omega)|(have h9:=ymg a0 a1;have hb8:=hb;simp[zcf,zkg,ze]at hb8;omega));first|done|fail):p:=h
theorem den (a0:Int) (a1:Int) (a2:Int)  : Den Tryz.prog 252 [.int .i64 a0,.int .i64 a1,.int .i64 a2] (.tup [.int .i64 ((zbe a0 a1 a2).1),.int .i64 ((zbe a0 a1 a2).2)]):=by
 generalize hR:zbe a0 a1 a2=r
 unfold zbe at hR
 refine di Tryz.func252 Tryz.ntmps252 Tryz.results252 ?_
 intro c hL hc hk
 clear hL
 simp only[pars,Nat.zero_add]
 iterate 2 refine rS ?_
 refine AWP.cond rfl (fun hb => ?_) (fun hb => ?_)
 ·replace hR:=ct hR
  refine rS ?_
  refine AWP.ret ?_
  subst hR
  exact es
 ·replace hR:=cf hR
  refine rS ?_
  refine AWP.ret ?_
  subst hR
  exact es
end N252
def D_zbe : DF
 | [x0,x1,x2]=>some (.tup [.int .i64 ((zbe (rdI x0) (rdI x1) (rdI x2)).1),.int .i64 ((zbe (rdI x0) (rdI x1) (rdI x2)).2)],false,[wI .i64 x0,wI .i64 x1,wI .i64 x2])
 | _=>none
theorem yn8:OkD Tryz.prog 252 D_zbe:=by unfold D_zbe;exact dk N252.den
end Go.Ab

namespace Go.Ab
open Go Go.Proofs
theorem yzs (a:Int):(zv a).length≤10000:=by
 unfold zv zld ze
 by_cases h:0≤a∧a≤99999
 ·have hr:=yd9 a h.1 h.2
  have l1:=ycc (zw a).1
  have l2:=ycp (zw a).2.1 (by omega) (by omega)
  have l3:=ycp (zw a).2.2 (by omega) (by omega)
  simp only[h.1,h.2,decide_true,Bool.and_self,Bool.not_true,cond_false,List.length_append,List.length_cons,List.length_nil]
  omega
 ·have:(decide (0≤a) && decide (a≤99999))=false:=by simpa using h
  simp[this]
end Go.Ab

namespace Go.Ab
open Go Go.Proofs
def zmc (a0:(List UInt8)):(Int×Bool):=
 (bif (((zb a0 [45]).length:Int) != 3)then(0,false)else(bif (((((!((zu ((zb a0 [45]).getD 0 default)).2)) || (!((zu ((zb a0 [45]).getD 1 default)).2))) || (!((zu ((zb a0 [45]).getD 2 default)).2))) || (((zbe ((zu ((zb a0 [45]).getD 0 default)).1) ((zu ((zb a0 [45]).getD 1 default)).1) ((zu ((zb a0 [45]).getD 2 default)).1)).2) != 0)) || ((zv ((zbe ((zu ((zb a0 [45]).getD 0 default)).1) ((zu ((zb a0 [45]).getD 1 default)).1) ((zu ((zb a0 [45]).getD 2 default)).1)).1)) != a0))then(0,false)else((zbe ((zu ((zb a0 [45]).getD 0 default)).1) ((zu ((zb a0 [45]).getD 1 default)).1) ((zu ((zb a0 [45]).getD 2 default)).1)).1,true)))
namespace N164
theorem DD:DOk Tryz.prog (Go.Ab.DD [(127,dP D_zv),(135,dP D_zb),(250,dP D_zu),(252,dP D_zbe)]):=ya y7u.e <| ya y3j.e <| ya yabb.e <| ya yn8.e <| yc _
theorem dn:type_of% (And.intro @D_zv.eq_1 <| And.intro @D_zb.eq_1 <| And.intro @D_zu.eq_1 <| @D_zbe.eq_1):=by and_intros<;>intros<;>rfl
theorem gr {p:Prop} (h:p:=by(grind [yzs]);first|done|fail):p:=h
theorem den (a0:(List UInt8)) (hb0:a0.length<1099511627776) (hp0:a0.length≤1048576):Den Tryz.prog 164 [.str a0] (.tup [.int .i64 ((zmc a0).1),.bool ((zmc a0).2)]):=by
 generalize hR:zmc a0=r
 unfold zmc at hR
 refine di Tryz.func164 Tryz.ntmps164 Tryz.results164 ?_
 intro c hL hc hk
 obtain⟨hL0,_⟩:=hL
 have hw0:a0.length<9223372036854775808:=Nat.lt_succ_of_le hL0
 clear hL0
 simp only[pars,Nat.zero_add]
 have hs9:=yrr a0 [45] (by omega)
 iterate 3 refine rS ?_
 refine AWP.cond rfl (fun hb => ?_) (fun hb => ?_)
 ·replace hR:=ct hR
  refine rS ?_
  refine AWP.ret ?_
  subst hR
  exact es
 ·replace hR:=cf hR
  iterate 5 refine rS ?_
  refine AWP.cond rfl (fun hb => ?_) (fun hb => ?_)
  ·replace hR:=ct hR
   refine rS ?_
   refine AWP.ret ?_
   subst hR
   exact es
  ·replace hR:=cf hR
   refine rS ?_
   refine AWP.ret ?_
   subst hR
   exact es
end N164
def D_zmc : DF
 | [x0]=>some (.tup [.int .i64 ((zmc (rdS x0)).1),.bool ((zmc (rdS x0)).2)],false,[wS x0,(rdS x0).length<1099511627776,(rdS x0).length≤1048576])
 | _=>none
theorem y0y:OkD Tryz.prog 164 D_zmc:=by unfold D_zmc;exact dk N164.den
end Go.Ab

namespace Go.Ab
open Go Go.Proofs
def yz3 (a0:(List UInt8)) (i1:Nat) (s1:List (List UInt8)):Except ((List (List UInt8))) (List (List UInt8)):=
 (bif (((zb a0 [32]).getD i1 default) != [])then .ok (s1++[((zb a0 [32]).getD i1 default)])else .ok s1)
def zp (a0:(List UInt8)):(List (List UInt8)):=
 (match ye (yz3 a0) (((zb a0 [32]).length)-0) 0 ([]:List (List UInt8))with|.error e=>e|.ok s1=>s1)
namespace N82
theorem DD:DOk Tryz.prog (Go.Ab.DD [(135,dP D_zb)]):=ya y3j.e <| yc _
theorem dn:type_of% (@D_zb.eq_1):=by and_intros<;>intros<;>rfl
theorem den (a0:(List UInt8)) (hb0:a0.length<1099511627776) (hp0:a0.length≤1048576):Den Tryz.prog 82 [.str a0] (ownL 9 1 eS (zp a0)):=by
 generalize hR:zp a0=r
 unfold zp at hR
 refine di Tryz.func82 Tryz.ntmps82 Tryz.results82 ?_
 intro c hL hc hk
 obtain⟨hL0,_⟩:=hL
 have hw0:a0.length<9223372036854775808:=Nat.lt_succ_of_le hL0
 clear hL0
 simp only[pars,Nat.zero_add]
 have hs9:=yrr a0 [32] (by omega)
 iterate 3 refine rS ?_
 refine AWP.block ?_
 generalize hz1:ye (yz3 a0) (((zb a0 [32]).length)-0) 0 ([]:List (List UInt8))=z1 at hR
 refine AWP.range (yz3 a0) (fun i1 s1=>⟨[(3,.ref 0 1 0 s1.length),(8,.ref 1 1 0 ((zb a0 [32]).length)),(9,.int .i64 ((zb a0 [32]).length:Int)),(10,.int .i64 (i1:Int))],[.arr 9 1 s1.length (fun j=>eS (s1.getD j default)),.arr 9 1 (zb a0 [32]).length (fun j=>eS ((zb a0 [32]).getD j default))]⟩) (fun i1 s1=>s1.length≤([]:List (List UInt8)).length+1 * i1∧s1.length≤i1) (((zb a0 [32]).length)) 0 ([]:List (List UInt8)) [0,1] hz1 ot wt sm ?_
 clear hz1
 intro i1 s1 hi1 hW1 hz1
 refine rS ?_
 refine AWP.seq ?_
 refine AWP.cond rfl (fun hb => ?_) (fun hb => ?_)
 ·have hlt1:i1<((zb a0 [32]).length):=ot
  rw[yj hlt1]at hz1;simp only[yz3]at hz1
  iterate 2 refine rS ?_
  refine AWP.cond rfl (fun hb => ?_) (fun hb => ?_)
  ·simp only[hb,cond_true]at hz1
   iterate 2 refine rS ?_
   exact⟨_,[3,1],hlt1,wt,hz1,sm⟩
  ·simp only[hb,cond_false]at hz1
   refine rS ?_
   exact⟨_,[0,1],hlt1,wt,hz1,sm⟩
 ·obtain rfl:i1=((zb a0 [32]).length):=ot
  rw[yi (Nat.le_refl _)]at hz1;subst hz1;dsimp only at hR
  refine AWP.exit ?_;refine yb ?_
  refine rS ?_
  refine AWP.ret ?_
  subst hR
  exact es
end N82
def D_zp : DF
 | [x0]=>some (ownL 9 1 eS (zp (rdS x0)),false,[wS x0,(rdS x0).length<1099511627776,(rdS x0).length≤1048576])
 | _=>none
theorem ys3:OkD Tryz.prog 82 D_zp:=by unfold D_zp;exact dk N82.den
end Go.Ab

namespace Go.Ab
open Go Go.Proofs
theorem y6d (l:List (List UInt8)) (b:Nat→List (List UInt8)→Except (List (List UInt8)) (List (List UInt8))) (hb:∀ i s,b i s=(bif (l.getD i default) != []then .ok (s++[l.getD i default])else .ok s)) :
  ∀ (k i:Nat) (s:List (List UInt8)),i+k=l.length→ye b k i s=.ok (s++(l.drop i).filter (· != []))
 | 0,i,s,h=>by
  rw[List.drop_eq_nil_of_le (by omega)]
  simp[ye]
 | k+1,i,s,h=>by
  have hlt:i<l.length:=by omega
  have hg:l.getD i default=l[i]:=by simp[List.getD,List.getElem?_eq_getElem hlt]
  simp only[ye,hb,hg]
  rw[List.drop_eq_getElem_cons hlt,List.filter_cons]
  cases hc:(l[i] != [])with
  | true=>
   simp only[cond_true]
   rw[y6d l b hb k (i+1) _ (by omega)]
   simp
  | false=>
   simp only[cond_false]
   rw[y6d l b hb k (i+1) _ (by omega)]
   simp
theorem ykcb (a:List UInt8):zp a=(yh 32 a).filter (· != []):=by
 unfold zp
 rw[y6d (zb a [32]) (yz3 a) (fun i s=>rfl) _ 0 [] (by omega)]
 rfl
theorem yv2 (a:List UInt8) (ha:a.length≤1048576):∀ x∈zp a,x.length≤1048576:=by
 intro x hx
 rw[ykcb]at hx
 have:=(yx 32 a).2 x (List.mem_filter.1 hx).1
 omega
theorem yrc {l:List (List UInt8)} (h:∀ x∈l,x.length≤1048576) (i:Nat):(l.getD i default).length≤1048576:=by
 by_cases hi:i<l.length
 ·rw[List.getD_eq_getElem?_getD,List.getElem?_eq_getElem hi]
  exact h _ (List.getElem_mem hi)
 ·rw[List.getD_eq_getElem?_getD,List.getElem?_eq_none (by omega)]
  show([]:List UInt8).length≤_
  simp
end Go.Ab

namespace Go.Ab
open Go Go.Proofs
def zj (a0:(List UInt8)):(Int×Bool):=yac a0
theorem ygcb (a0:(List UInt8)) (hp0:a0.length≤1048576):Den Tryz.prog 136 [.str a0] (.tup [.int .i64 ((zj a0).1),.bool ((zj a0).2)]):=by
 exact yaw a0 hp0
def D_zj : DF
 | [x0]=>some (.tup [.int .i64 ((zj (rdS x0)).1),.bool ((zj (rdS x0)).2)],false,[wS x0,(rdS x0).length≤1048576])
 | _=>none
theorem yxh:OkD Tryz.prog 136 D_zj:=by
 intro xs r z ob h ho
 unfold D_zj at h
 split at h
 ·simp only[Option.some.injEq,Prod.mk.injEq]at h
  obtain⟨rfl,rfl,rfl⟩:=h
  obtain⟨h0,hp0,_⟩:=ho
  exact Den.sim (ygcb _ hp0) (yu (ycb h0).1 <| trivial) (yw (ycb h0).2 <| rfl) rfl
 ·cases h
end Go.Ab

namespace Go.Ab
open Go Go.Proofs
def ydu (a0:(List UInt8)) (s1:Int×Int):Except (Sum ((Character×Bool)) (Int×Int)) (Int×Int):=
 (bif decide (s1.1≤8)then(bif ((zdd s1.1) == ((zd ((zh a0 [43,76,70,108]).1) [40]).1))then .ok (IntKind.wrap .i64 (s1.1+1),s1.1)else .ok (IntKind.wrap .i64 (s1.1+1),s1.2))else .error (.inr (s1.1,s1.2)))
def y3u (a0:(List UInt8)) (s1:Int×Int) (i2:Nat) (s2:List Int):Except ((Character×Bool)) (List Int):=
 (bif (!((zj ((zb ((zh ((zd ((zh a0 [43,76,70,108]).1) [40]).2.1) [41]).1) [43]).getD i2 default)).2))then .error ({ Kind:=0,Group:=[],Letter:=[],Colors:=[],Period:=0:Character },false)else .ok (s2++([(zj ((zb ((zh ((zd ((zh a0 [43,76,70,108]).1) [40]).2.1) [41]).1) [43]).getD i2 default)).1]:List Int)))
def y3m (a0:(List UInt8)) (s3:Int×Int):Except (Sum ((Character×Bool)) (Int×Int)) (Int×Int):=
 (bif decide (s3.1≤8)then(bif ((zdd s3.1) == ((zd ((zh a0 [43,76,70,108]).1) [40]).1))then .ok (IntKind.wrap .i64 (s3.1+1),s3.1)else .ok (IntKind.wrap .i64 (s3.1+1),s3.2))else .error (.inr (s3.1,s3.2)))
def y9v (a0:(List UInt8)) (s3:Int×Int) (i4:Nat) (s4:List Int):Except ((Character×Bool)) (List Int):=
 (bif (!((zj ((zb ((zh ((zd ((zh a0 [43,76,70,108]).1) [40]).2.1) [41]).1) [43]).getD i4 default)).2))then .error ({ Kind:=0,Group:=[],Letter:=[],Colors:=[],Period:=0:Character },false)else .ok (s4++([(zj ((zb ((zh ((zd ((zh a0 [43,76,70,108]).1) [40]).2.1) [41]).1) [43]).getD i4 default)).1]:List Int)))
def zm (a0:(List UInt8)):(Character×Bool):=
 (bif (zh a0 [43,76,70,108]).2 then(match y3 (ydu a0) (((9-(1:Int)).toNat)+1) (1,0)with|.error (.inl e)=>e|.error (.inr s1)=>(bif (!((zd ((zh a0 [43,76,70,108]).1) [40]).2.2))then({ Kind:=s1.2,Group:=[],Letter:=[76],Colors:=[],Period:=0:Character },true)else(bif (s1.2 == 8)then({ Kind:=s1.2,Group:=[],Letter:=(zh ((zd ((zh a0 [43,76,70,108]).1) [40]).2.1) [41]).1,Colors:=[],Period:=0:Character },((zh ((zd ((zh a0 [43,76,70,108]).1) [40]).2.1) [41]).2 && (!((zh a0 [43,76,70,108]).2))))else(match ye (y3u a0 s1) (((zb ((zh ((zd ((zh a0 [43,76,70,108]).1) [40]).2.1) [41]).1) [43]).length)-0) 0 ([]:List Int)with|.error e=>e|.ok s2=>({ Kind:=s1.2,Group:=s2,Letter:=[76],Colors:=[],Period:=0:Character },(zh ((zd ((zh a0 [43,76,70,108]).1) [40]).2.1) [41]).2))))|.ok _=>default)else(match y3 (y3m a0) (((9-(1:Int)).toNat)+1) (1,0)with|.error (.inl e)=>e|.error (.inr s3)=>(bif (!((zd ((zh a0 [43,76,70,108]).1) [40]).2.2))then({ Kind:=s3.2,Group:=[],Letter:=[],Colors:=[],Period:=0:Character },true)else(bif (s3.2 == 8)then({ Kind:=s3.2,Group:=[],Letter:=(zh ((zd ((zh a0 [43,76,70,108]).1) [40]).2.1) [41]).1,Colors:=[],Period:=0:Character },((zh ((zd ((zh a0 [43,76,70,108]).1) [40]).2.1) [41]).2 && (!((zh a0 [43,76,70,108]).2))))else(match ye (y9v a0 s3) (((zb ((zh ((zd ((zh a0 [43,76,70,108]).1) [40]).2.1) [41]).1) [43]).length)-0) 0 ([]:List Int)with|.error e=>e|.ok s4=>({ Kind:=s3.2,Group:=s4,Letter:=[],Colors:=[],Period:=0:Character },(zh ((zd ((zh a0 [43,76,70,108]).1) [40]).2.1) [41]).2))))|.ok _=>default))
namespace N185
theorem DD:DOk Tryz.prog (Go.Ab.DD [(135,dP D_zb),(136,dP D_zj),(184,dP D_zd),(262,dP D_zh),(263,dP D_zdd)]):=ya y3j.e <| ya yxh.e <| ya y6l.e <| ya yv9.e <| ya ywy.e <| yc _
theorem dn:type_of% (And.intro @D_zb.eq_1 <| And.intro @D_zj.eq_1 <| And.intro @D_zd.eq_1 <| And.intro @D_zh.eq_1 <| @D_zdd.eq_1):=by and_intros<;>intros<;>rfl
theorem gr {p:Prop} (h:p:=by(grind [yqg,ylr]);first|done|fail):p:=h
theorem o0 {p:Prop} (h:p:=by(first|(and_intros<;>(first|omega|rfl|exact yrc c4 _)));first|done|fail):p:=h
theorem o2 {p:Prop} (h:p:=by(first|(and_intros<;>first|omega|(rw[IntKind.wrap_i64];omega)|(simp;(first|done|fail))|(intro i hi;exact yff _ _ i hi)|(intro i hi;rw[yff _ _ i hi];exact yab _)|decide));first|done|fail):p:=h
set_option maxHeartbeats 2000000 in
set_option maxRecDepth 20000 in
theorem den (a0:(List UInt8)) (hb0:a0.length<1099511627776) (hp0:a0.length≤1048576):Den Tryz.prog 185 [.str a0] (.tup [.agg (y8 ((zm a0).1)),.bool ((zm a0).2)]):=by
 generalize hR:zm a0=r
 unfold zm at hR
 refine di Tryz.func185 Tryz.ntmps185 Tryz.results185 ?_
 intro c hL hc hk
 obtain⟨hL0,_⟩:=hL
 have hw0:a0.length<9223372036854775808:=Nat.lt_succ_of_le hL0
 clear hL0
 simp only[pars,Nat.zero_add]
 have c1:=ylr a0 [43,76,70,108]
 have c2:=yqg (zh a0 [43,76,70,108]).1 [40]
 have c3:=ylr (zd (zh a0 [43,76,70,108]).1 [40]).2.1 [41]
 have c4:=(yrr (zh (zd (zh a0 [43,76,70,108]).1 [40]).2.1 [41]).1 [43] (by omega)).2
 have c5:=(yrr (zh (zd (zh a0 [43,76,70,108]).1 [40]).2.1 [41]).1 [43] (by omega)).1
 iterate 4 refine rS ?_
 refine AWP.cond rfl (fun hb => ?_) (fun hb => ?_)
 ·replace hR:=ct hR
  iterate 3 refine rS ?_
  refine AWP.block ?_
  generalize hz1:y3 (ydu a0) (((9-(1:Int)).toNat)+1) (1,0)=z1 at hR
  refine AWP.whileW (ydu a0) (fun s1=>⟨[(2,.ptr 0 0),(4,.ptr 1 0),(6,.bool ((zh a0 [43,76,70,108]).2)),(7,.str ((zd ((zh a0 [43,76,70,108]).1) [40]).1)),(8,.str ((zd ((zh a0 [43,76,70,108]).1) [40]).2.1)),(9,.bool ((zd ((zh a0 [43,76,70,108]).1) [40]).2.2)),(10,.int .i64 s1.1)],[.box [.int .i64 0,.nils,.str [],.str [],.int .i64 0],.box [.int .i64 s1.2,.nils,.str [76],.str [],.int .i64 0]]⟩) (fun s1=>1≤s1.1∧s1.1≤9) (fun s1=>(9-s1.1).toNat) (((9-(1:Int)).toNat)+1) (1,0) [0,1] hz1 m0 wt sm ?_
  clear hz1
  intro s1 k1 hW1 hm1 hz1
  simp only[ydu]at hz1
  refine rS ?_
  refine AWP.cond rfl (fun hb => ?_) (fun hb => ?_)
  ·simp only[hb,cond_true]at hz1
   refine rS ?_
   refine AWP.cond rfl (fun hb => ?_) (fun hb => ?_)
   ·simp only[hb,cond_true]at hz1
    iterate 2 refine rS ?_
    exact⟨_,[0,1],ms,wt,hz1,sm⟩
   ·simp only[hb,cond_false]at hz1
    refine rS ?_
    exact⟨_,[0,1],ms,wt,hz1,sm⟩
  ·simp only[hb,cond_false]at hz1
   refine AWP.exit ?_
   refine yb ?_
   subst hz1;dsimp only at hR
   refine rS ?_
   refine AWP.cond rfl (fun hb => ?_) (fun hb => ?_)
   ·replace hR:=ct hR
    refine rS ?_
    refine AWP.ret ?_
    subst hR
    exact es
   ·replace hR:=cf hR
    iterate 2 refine rS ?_
    refine AWP.cond rfl (fun hb => ?_) (fun hb => ?_)
    ·replace hR:=ct hR
     iterate 2 refine rS ?_
     refine AWP.ret ?_
     subst hR
     exact es
    ·replace hR:=cf hR
     refine rS ?_
     refine AWP.block ?_
     refine AWP.nilB 1 1 2 1 (fun _=>[]) rfl rfl ?_;try simp only[ea,absV,absVL,cput,gv,sv,dn,reduceCtorEq,reduceIte,Nat.reduceBEq,Nat.reduceAdd,Nat.reduceEqDiff,Nat.reduceLT,Nat.reduceLeDiff,Nat.reduceMul,Nat.reduceSub,BEq.rfl,beq_self_eq_true,Int.reduceToNat]
     generalize hz2:ye (y3u a0 (s1.1,s1.2)) (((zb ((zh ((zd ((zh a0 [43,76,70,108]).1) [40]).2.1) [41]).1) [43]).length)-0) 0 ([]:List Int)=z2 at hR
     refine AWP.range (y3u a0 (s1.1,s1.2)) (fun i2 s2=>⟨[(2,.ptr 0 0),(4,.ptr 1 0),(12,.bool ((zh ((zd ((zh a0 [43,76,70,108]).1) [40]).2.1) [41]).2)),(61,.ref 3 1 0 ((zb ((zh ((zd ((zh a0 [43,76,70,108]).1) [40]).2.1) [41]).1) [43]).length)),(62,.int .i64 ((zb ((zh ((zd ((zh a0 [43,76,70,108]).1) [40]).2.1) [41]).1) [43]).length:Int)),(63,.int .i64 (i2:Int))],[.box [.int .i64 0,.nils,.str [],.str [],.int .i64 0],.box [.int .i64 s1.2,.ref 2 1 0 s2.length,.str [76],.str [],.int .i64 0],.arr 2 1 s2.length (fun j=>yr (s2.getD j default)),.arr 9 1 (zb ((zh ((zd ((zh a0 [43,76,70,108]).1) [40]).2.1) [41]).1) [43]).length (fun j=>eS ((zb ((zh ((zd ((zh a0 [43,76,70,108]).1) [40]).2.1) [41]).1) [43]).getD j default))]⟩) (fun i2 s2=>s2.length≤i2) (((zb ((zh ((zd ((zh a0 [43,76,70,108]).1) [40]).2.1) [41]).1) [43]).length)) 0 ([]:List Int) [0,1,3,2] hz2 ot wt sm ?_
     clear hz2
     intro i2 s2 hi2 hW2 hz2
     refine rS ?_
     refine AWP.seq ?_
     refine AWP.cond rfl (fun hb => ?_) (fun hb => ?_)
     ·have hlt2:i2<((zb ((zh ((zd ((zh a0 [43,76,70,108]).1) [40]).2.1) [41]).1) [43]).length):=ot
      rw[yj hlt2]at hz2;simp only[y3u]at hz2
      iterate 3 refine rS ?_
      refine AWP.cond rfl (fun hb => ?_) (fun hb => ?_)
      ·simp only[hb,cond_true]at hz2
       refine rS ?_
       refine AWP.ret ?_
       subst hz2
       dsimp only at hR
       subst hR
       exact es
      ·simp only[hb,cond_false]at hz2
       iterate 2 refine rS ?_
       exact⟨_,[0,1,5,3],hlt2,wt,hz2,sm⟩
     ·obtain rfl:i2=((zb ((zh ((zd ((zh a0 [43,76,70,108]).1) [40]).2.1) [41]).1) [43]).length):=ot
      rw[yi (Nat.le_refl _)]at hz2;subst hz2;dsimp only at hR
      refine AWP.exit ?_;refine yb ?_
      refine rS ?_
      refine AWP.ret ?_
      subst hR
      exact es
 ·replace hR:=cf hR
  iterate 2 refine rS ?_
  refine AWP.block ?_
  generalize hz3:y3 (y3m a0) (((9-(1:Int)).toNat)+1) (1,0)=z3 at hR
  refine AWP.whileW (y3m a0) (fun s3=>⟨[(2,.ptr 0 0),(4,.ptr 1 0),(6,.bool ((zh a0 [43,76,70,108]).2)),(7,.str ((zd ((zh a0 [43,76,70,108]).1) [40]).1)),(8,.str ((zd ((zh a0 [43,76,70,108]).1) [40]).2.1)),(9,.bool ((zd ((zh a0 [43,76,70,108]).1) [40]).2.2)),(10,.int .i64 s3.1)],[.box [.int .i64 0,.nils,.str [],.str [],.int .i64 0],.box [.int .i64 s3.2,.nils,.str [],.str [],.int .i64 0]]⟩) (fun s3=>1≤s3.1∧s3.1≤9) (fun s3=>(9-s3.1).toNat) (((9-(1:Int)).toNat)+1) (1,0) [0,1] hz3 m0 wt sm ?_
  clear hz3
  intro s3 k3 hW3 hm3 hz3
  simp only[y3m]at hz3
  refine rS ?_
  refine AWP.cond rfl (fun hb => ?_) (fun hb => ?_)
  ·simp only[hb,cond_true]at hz3
   refine rS ?_
   refine AWP.cond rfl (fun hb => ?_) (fun hb => ?_)
   ·simp only[hb,cond_true]at hz3
    iterate 2 refine rS ?_
    exact⟨_,[0,1],ms,wt,hz3,sm⟩
   ·simp only[hb,cond_false]at hz3
    refine rS ?_
    exact⟨_,[0,1],ms,wt,hz3,sm⟩
  ·simp only[hb,cond_false]at hz3
   refine AWP.exit ?_
   refine yb ?_
   subst hz3;dsimp only at hR
   refine rS ?_
   refine AWP.cond rfl (fun hb => ?_) (fun hb => ?_)
   ·replace hR:=ct hR
    refine rS ?_
    refine AWP.ret ?_
    subst hR
    exact es
   ·replace hR:=cf hR
    iterate 2 refine rS ?_
    refine AWP.cond rfl (fun hb => ?_) (fun hb => ?_)
    ·replace hR:=ct hR
     iterate 2 refine rS ?_
     refine AWP.ret ?_
     subst hR
     exact es
    ·replace hR:=cf hR
     refine rS ?_
     refine AWP.block ?_
     refine AWP.nilB 1 1 2 1 (fun _=>[]) rfl rfl ?_;try simp only[ea,absV,absVL,cput,gv,sv,dn,reduceCtorEq,reduceIte,Nat.reduceBEq,Nat.reduceAdd,Nat.reduceEqDiff,Nat.reduceLT,Nat.reduceLeDiff,Nat.reduceMul,Nat.reduceSub,BEq.rfl,beq_self_eq_true,Int.reduceToNat]
     generalize hz4:ye (y9v a0 (s3.1,s3.2)) (((zb ((zh ((zd ((zh a0 [43,76,70,108]).1) [40]).2.1) [41]).1) [43]).length)-0) 0 ([]:List Int)=z4 at hR
     refine AWP.range (y9v a0 (s3.1,s3.2)) (fun i4 s4=>⟨[(2,.ptr 0 0),(4,.ptr 1 0),(12,.bool ((zh ((zd ((zh a0 [43,76,70,108]).1) [40]).2.1) [41]).2)),(61,.ref 3 1 0 ((zb ((zh ((zd ((zh a0 [43,76,70,108]).1) [40]).2.1) [41]).1) [43]).length)),(62,.int .i64 ((zb ((zh ((zd ((zh a0 [43,76,70,108]).1) [40]).2.1) [41]).1) [43]).length:Int)),(63,.int .i64 (i4:Int))],[.box [.int .i64 0,.nils,.str [],.str [],.int .i64 0],.box [.int .i64 s3.2,.ref 2 1 0 s4.length,.str [],.str [],.int .i64 0],.arr 2 1 s4.length (fun j=>yr (s4.getD j default)),.arr 9 1 (zb ((zh ((zd ((zh a0 [43,76,70,108]).1) [40]).2.1) [41]).1) [43]).length (fun j=>eS ((zb ((zh ((zd ((zh a0 [43,76,70,108]).1) [40]).2.1) [41]).1) [43]).getD j default))]⟩) (fun i4 s4=>s4.length≤i4) (((zb ((zh ((zd ((zh a0 [43,76,70,108]).1) [40]).2.1) [41]).1) [43]).length)) 0 ([]:List Int) [0,1,3,2] hz4 ot wt sm ?_
     clear hz4
     intro i4 s4 hi4 hW4 hz4
     refine rS ?_
     refine AWP.seq ?_
     refine AWP.cond rfl (fun hb => ?_) (fun hb => ?_)
     ·have hlt4:i4<((zb ((zh ((zd ((zh a0 [43,76,70,108]).1) [40]).2.1) [41]).1) [43]).length):=ot
      rw[yj hlt4]at hz4;simp only[y9v]at hz4
      iterate 3 refine rS ?_
      refine AWP.cond rfl (fun hb => ?_) (fun hb => ?_)
      ·simp only[hb,cond_true]at hz4
       refine rS ?_
       refine AWP.ret ?_
       subst hz4
       dsimp only at hR
       subst hR
       exact es
      ·simp only[hb,cond_false]at hz4
       iterate 2 refine rS ?_
       exact⟨_,[0,1,5,3],hlt4,wt,hz4,sm⟩
     ·obtain rfl:i4=((zb ((zh ((zd ((zh a0 [43,76,70,108]).1) [40]).2.1) [41]).1) [43]).length):=ot
      rw[yi (Nat.le_refl _)]at hz4;subst hz4;dsimp only at hR
      refine AWP.exit ?_;refine yb ?_
      refine rS ?_
      refine AWP.ret ?_
      subst hR
      exact es
end N185
def D_zm : DF
 | [x0]=>some (.tup [.agg (y8 ((zm (rdS x0)).1)),.bool ((zm (rdS x0)).2)],false,[wS x0,(rdS x0).length<1099511627776,(rdS x0).length≤1048576])
 | _=>none
theorem yvab:OkD Tryz.prog 185 D_zm:=by unfold D_zm;exact dk N185.den
end Go.Ab

namespace Go.Ab
open Go Go.Proofs
theorem yqy (k:Int) (l:List (List UInt8)) (h:0≤k) (h2:k<(l.length:Int)):zkb k l=l.getD k.toNat default:=by
 unfold zkb zug
 rw[decide_eq_true h,decide_eq_true h2]
 rfl
end Go.Ab

namespace Go.Ab
open Go Go.Proofs
def zhf (a0:(List UInt8)):(Point×Bool):=
 (bif (((!((zj ((zd a0 [44]).1)).2)) || (!((zj ((zd a0 [44]).2.1)).2))) || (!(zke ({ X:=(zj ((zd a0 [44]).1)).1,Y:=(zj ((zd a0 [44]).2.1)).1:Point }))))then({ X:=0,Y:=0:Point },false)else({ X:=(zj ((zd a0 [44]).1)).1,Y:=(zj ((zd a0 [44]).2.1)).1:Point },true))
namespace N137
theorem DD:DOk Tryz.prog (Go.Ab.DD [(136,dP D_zj),(184,dP D_zd),(211,dP D_zke)]):=ya yxh.e <| ya y6l.e <| ya yip.e <| yc _
theorem dn:type_of% (And.intro @D_zj.eq_1 <| And.intro @D_zd.eq_1 <| @D_zke.eq_1):=by and_intros<;>intros<;>rfl
theorem gr {p:Prop} (h:p:=by(grind [yqg]);first|done|fail):p:=h
set_option maxHeartbeats 1000000 in
set_option maxRecDepth 20000 in
theorem den (a0:(List UInt8)) (hb0:a0.length<1099511627776) (hp0:a0.length≤1048576):Den Tryz.prog 137 [.str a0] (.tup [.agg (ytd ((zhf a0).1)),.bool ((zhf a0).2)]):=by
 generalize hR:zhf a0=r
 unfold zhf at hR
 refine di Tryz.func137 Tryz.ntmps137 Tryz.results137 ?_
 intro c hL hc hk
 obtain⟨hL0,_⟩:=hL
 have hw0:a0.length<9223372036854775808:=Nat.lt_succ_of_le hL0
 clear hL0
 simp only[pars,Nat.zero_add]
 have c1:=yqg a0 [44]
 iterate 6 refine rS ?_
 refine AWP.cond rfl (fun hb => ?_) (fun hb => ?_)
 ·replace hR:=ct hR
  refine rS ?_
  refine AWP.ret ?_
  subst hR
  exact es
 ·replace hR:=cf hR
  refine rS ?_
  refine AWP.ret ?_
  subst hR
  exact es
end N137
def D_zhf : DF
 | [x0]=>some (.tup [.agg (ytd ((zhf (rdS x0)).1)),.bool ((zhf (rdS x0)).2)],false,[wS x0,(rdS x0).length<1099511627776,(rdS x0).length≤1048576])
 | _=>none
theorem yg6:OkD Tryz.prog 137 D_zhf:=by unfold D_zhf;exact dk N137.den
end Go.Ab
