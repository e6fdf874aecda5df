/- A part of a proof: walks of functions and lemmas of our own. No conditions. -/
import Derived.Test.YtopoomikfjodkaaGreatDoorVAl
import Derived.Test.YtopoomikfjodkaaGreatDoorVAz
import Derived.Test.YtopoomikfjodkaaGreatDoorVAp
set_option linter.unusedSectionVars false
set_option linter.unusedVariables false
set_option linter.unusedSimpArgs false
set_option maxHeartbeats 1000000
namespace Go.Ab
open Go Go.Proofs
def ycu (a0:Int) (s1:Int×Int×Int):Except (Sum ((Int×Int×Int)) (Int×Int×Int)) (Int×Int×Int):=
 (bif decide ((zqb s1.2.1 s1.2.2)≤s1.1)then(bif decide (12<(IntKind.wrap .i64 (s1.2.2+1)))then .ok (IntKind.wrap .i64 (s1.1-(zqb s1.2.1 s1.2.2)),IntKind.wrap .i64 (s1.2.1+1),1)else .ok (IntKind.wrap .i64 (s1.1-(zqb s1.2.1 s1.2.2)),s1.2.1,IntKind.wrap .i64 (s1.2.2+1)))else .error (.inr (s1.1,s1.2.1,s1.2.2)))
def zl (a0:Int):(Int×Int×Int):=
 (match ynb (ycu a0) (((a0).toNat)+1) (a0,2000,1)with|.error (.inl e)=>e|.error (.inr s1)=>(s1.2.1,s1.2.2,IntKind.wrap .i64 (s1.1+1))|.ok _=>default)
namespace N293
theorem DD:DOk Tryz.prog (Go.Ab.DD [(317,dP D_zqb)]):=ya yx1.e <| yd _
theorem dn:type_of% (@D_zqb.eq_1):=by and_intros<;>intros<;>rfl
theorem den (a0:Int) (hp0:0≤a0) (hp1:a0≤99999):Den Tryz.prog 293 [.int .i64 a0] (.tup [.int .i64 ((zl a0).1),.int .i64 ((zl a0).2.1),.int .i64 ((zl a0).2.2)]):=by
 generalize hR:zl a0=r
 unfold zl at hR
 refine di Tryz.func293 Tryz.ntmps293 Tryz.results293 ?_
 intro c hL hc hk
 clear hL
 simp only[pars,Nat.zero_add]
 iterate 3 refine rS ?_
 refine AWP.seq ?_
 refine AWP.block ?_
 generalize hz1:ynb (ycu a0) (((a0).toNat)+1) (a0,2000,1)=z1 at hR
 refine AWP.whileW (ycu a0) (fun s1=>⟨[(0,.int .i64 s1.1),(5,.int .i64 s1.2.1),(6,.int .i64 s1.2.2)],[]⟩) (fun s1=>0≤s1.1∧2000≤s1.2.1∧1≤s1.2.2∧s1.2.2≤12∧s1.2.1-2000+s1.1≤a0) (fun s1=>(s1.1).toNat) (((a0).toNat)+1) (a0,2000,1) [] hz1 m0 wt sm ?_
 clear hz1
 intro s1 k1 hW1 hm1 hz1
 simp only[ycu]at hz1
 refine rS ?_
 refine AWP.cond rfl (fun hb => ?_) (fun hb => ?_)
 ·simp only[hb,cond_true]at hz1
  iterate 3 refine rS ?_
  refine AWP.cond rfl (fun hb => ?_) (fun hb => ?_)
  ·simp only[hb,cond_true]at hz1
   iterate 2 refine rS ?_
   exact⟨_,[],by(have h9:=ybl s1.2.1 s1.2.2;simp only[ob,ln,ol]at *;omega),by(have h9:=ybl s1.2.1 s1.2.2;simp only[ob,ln,ol]at *;omega),hz1,sm⟩
  ·simp only[hb,cond_false]at hz1
   refine AWP.skip ?_
   exact⟨_,[],by(have h9:=ybl s1.2.1 s1.2.2;simp only[ob,ln,ol]at *;omega),by(have h9:=ybl s1.2.1 s1.2.2;simp only[ob,ln,ol]at *;omega),hz1,sm⟩
 ·simp only[hb,cond_false]at hz1
  refine AWP.exit ?_
  refine yb ?_
  subst hz1;dsimp only at hR
  refine rS ?_
  refine AWP.ret ?_
  subst hR
  exact es
end N293
def D_zl : DF
 | [x0]=>some (.tup [.int .i64 ((zl (rdI x0)).1),.int .i64 ((zl (rdI x0)).2.1),.int .i64 ((zl (rdI x0)).2.2)],false,[wI .i64 x0,0≤(rdI x0),(rdI x0)≤99999])
 | _=>none
theorem yh4:OkD Tryz.prog 293 D_zl:=by unfold D_zl;exact dk N293.den
end Go.Ab

namespace Go.Ab
open Go Go.Proofs
theorem y64 (a:Int) (h1:0≤a) (h2:a≤99999):∃ y m d,zl a=(y,m,d)∧y0k a y m d:=by
 have L1 := yig (body := ycu a) (I := fun s => 0 ≤ s.1 ∧ 2000 ≤ s.2.1 ∧ 1 ≤ s.2.2 ∧ s.2.2 ≤ 12 ∧ ybD s.2.1 + mbD (yhb s.2.1) s.2.2.toNat + s.1 = a)
  (Q:=fun r=>∃ s:Int×Int×Int,r=.inr s∧0≤s.1∧2000≤s.2.1∧1≤s.2.2∧s.2.2≤12∧ybD s.2.1+mbD (yhb s.2.1) s.2.2.toNat+s.1=a∧s.1<zqb s.2.1 s.2.2) (M:=fun s=>s.1.toNat) (by
   rintro⟨d,y,m⟩ ⟨i1,i2,i3,i4,i5⟩
   simp only[ycu]at i1 i2 i3 i4 i5 ⊢
   have hle:=ywl (y:=y) (by omega)
   have hnn:=ypg i2
   have hge:=ybl y m
   have hm:=ywr (y:=y) i3 i4
   by_cases hc:zqb y m≤d
   ·simp only[hc,decide_true,cond_true]
    rw[ymc (n:=d-zqb y m) (by omega) (by omega),ymc (n:=m+1) (by omega) (by omega),ymc (n:=y+1) (by omega) (by omega)]
    by_cases h12:12<m+1
    ·obtain rfl:m=12:=by omega
     have hn:=yrl y i2
     have hl:=ykx (yhb y)
     simp only[h12,decide_true,cond_true]
     have e1:mbD (yhb (y+1)) (1:Int).toNat=0:=ypl _
     have e12:(12:Int).toNat=12:=rfl
     rw[e12]at i5 hm
     refine⟨⟨by omega,by omega,by omega,by omega,?_⟩,by omega⟩
     rw[e1]
     cases hl2:yhb y<;>simp only[hl2,cond_true,cond_false]at * <;> omega
    ·have hn:=y5v (l:=yhb y) i3 (by omega)
     simp only[h12,decide_false,cond_false]
     refine⟨⟨by omega,by omega,by omega,by omega,by omega⟩,by omega⟩
   ·simp only[hc,decide_false,cond_false]
    exact⟨_,rfl,i1,i2,i3,i4,i5,by show d<zqb y m;omega⟩) (a.toNat+1) (a,2000,1) ⟨h1,by show(2000:Int)≤2000;omega,by show(1:Int)≤1;omega,by show(1:Int)≤12;omega,by
     show ybD 2000+(mbD (yhb 2000) 1:Int)+a=a
     rw[ypl];simp[ybD]⟩ (by show a.toNat<a.toNat+1;omega)
 obtain⟨r,e1,s,rfl,q1,q2,q3,q4,q5,q6⟩:=L1
 have hnn:=ypg q2
 have hge:=ybl s.2.1 s.2.2
 have hm:=ywr (y:=s.2.1) q3 q4
 refine⟨s.2.1,s.2.2,s.1+1,?_,q2,q3,q4,by omega,by omega,by omega⟩
 unfold zl
 rw[e1]
 simp only
 rw[ymc (by omega) (by omega)]
theorem y12 (a:Int) (h1:0≤a) (h2:a≤99999):2000≤(zl a).1∧(zl a).1≤2273∧1≤(zl a).2.1∧(zl a).2.1≤12∧1≤(zl a).2.2∧(zl a).2.2≤31:=by
 obtain⟨y,m,d,e,h⟩:=y64 a h1 h2
 have hm:=yxs (l:=yhb y) h.2.1 h.2.2.1
 have hy:y≤2273:=ywl (by have:=h.2.2.2.2.2;have:=h.2.2.2.1;omega)
 rw[e]
 exact⟨h.1,hy,h.2.1,h.2.2.1,h.2.2.2.1,by show d≤31;have:=h.2.2.2.2.1;omega⟩
end Go.Ab
