/- A part of a proof: walks of functions and lemmas of our own. No conditions. -/
import Derived.Test.YtijmcongeemehaaGreatDoorEAs
import Derived.Test.YtijmcongeemehaaGreatDoorEAp
import Derived.Test.YtijmcongeemehaaGreatDoorEAr
import Derived.Test.YtijmcongeemehaaGreatDoorEAl
import Derived.Test.YtijmcongeemehaaGreatDoorEAq
import Derived.Test.YtijmcongeemehaaGreatDoorEAm
import Derived.Test.YtijmcongeemehaaGreatDoorEAo
set_option linter.unusedSectionVars false
set_option linter.unusedVariables false
set_option linter.unusedSimpArgs false
set_option maxHeartbeats 1000000
namespace Go.Ab
open Go Go.Proofs
theorem yvt {y:Int} (h1:2000<=y) (h2:y<=2273):zid y=yeb y:=by
 unfold zid yeb zxd ze;simp[h1,h2]
theorem y9j {y m:Int} (hy1:2000<=y) (hy2:y<=2273) (h1:1<=m) (h2:m<=12):zx y m=mdD (yeb y) m.toNat:=by
 obtain⟨e1,e2,e3,e4,e5,e6,e7,e8,e9,e10,e11,e12⟩:=yrf y;rw[yvt hy1 hy2]at e2;rcases y8e h1 h2 with rfl|rfl|rfl|rfl|rfl|rfl|rfl|rfl|rfl|rfl|rfl|rfl<;>simp only[*]<;>cases yeb y<;>rfl
theorem y57 (a:Int) (h1:0<=a) (h2:a<=99999):∃ y m d,zt a=(y,m,d)/\y<=2273/\yvj a y m d:=by
 have L1 := y4l (body := yow a) (I := fun s => 0 <= s.1 /\ 2000 <= s.2 /\ ybD s.2 + s.1 = a)
  (Q:=fun r=>∃ s:Int×Int,r=.inr s/\0<=s.1/\2000<=s.2/\ybD s.2+s.1=a/\s.1<zjb s.2) (M:=fun s=>s.1.toNat) (by
   rintro⟨d,y⟩ ⟨i1,i2,i3⟩
   simp only[yow]at i1 i2 i3 ⊢;have hy:=ykj y;have hle:=yzn (y:=y) (by omega);have hnn:=yxl i2;by_cases hc:zjb y<=d
   ·have hyd:zjb y=365+(bif yeb y then 1 else 0):=by
     unfold zjb;rw[yvt i2 hle];cases yeb y<;>rfl
    have hn:=y5l y i2;simp only[hc,decide_true,cond_true];rw[yyb (by omega) (by omega),yyb (by omega) (by omega)];refine⟨⟨by omega,by omega,by omega⟩,by omega⟩
   ·simp only[hc,decide_false,cond_false]
    exact⟨_,rfl,i1,i2,i3,by show d<zjb y;omega⟩) (a.toNat+1) (a,2000) ⟨h1,by show(2000:Int)<=2000;omega,by simp[ybD]⟩ (by show a.toNat<a.toNat+1;omega)
 obtain⟨r,e1,s,rfl,q1,q2,q3,q4⟩:=L1;have hle:=yzn (y:=s.2) (by omega);have hnn:=yxl q2;have hyd:=ykj s.2
 have L2 := y4l (body := ylw a s) (I := fun t => 0 <= t.1 /\ 1 <= t.2 /\ t.2 <= 12 /\ t.1 < yps s.2 t.2 /\ (mbD (yeb s.2) t.2.toNat : Int) + t.1 = s.1)
  (Q:=fun r=>∃ t:Int×Int,r=.inr t/\0<=t.1/\1<=t.2/\t.2<=12/\t.1<zx s.2 t.2/\(mbD (yeb s.2) t.2.toNat:Int)+t.1=s.1) (M:=fun t=>t.1.toNat) (by
   rintro⟨d,m⟩ ⟨i1,i2,i3,i4,i5⟩
   simp only[ylw]at i1 i2 i3 i4 i5 ⊢;by_cases hc:zx s.2 m<=d
   ·have hs:=y8i s.2 m d i2 i3 i4 hc
    have hm:=y9j q2 hle i2 i3;have hn:=ygs (l:=yeb s.2) i2 hs.1;simp only[hc,decide_true,cond_true];rw[yyb (by omega) (by omega),yyb (by omega) (by omega)];refine⟨⟨by omega,by omega,by omega,hs.2.1,by omega⟩,by omega⟩
   ·simp only[hc,decide_false,cond_false]
    exact⟨_,rfl,i1,i2,i3,by show d<zx s.2 m;omega,i5⟩) (s.1.toNat+1) (s.1,1) ⟨q1,by show(1:Int)<=1;omega,by show(1:Int)<=12;omega,by rw[y3r];exact q4,by show(mbD (yeb s.2) 1:Int)+s.1=s.1;rw[yqn];simp⟩ (by show s.1.toNat<s.1.toNat+1;omega)
 obtain⟨r2,e2,t,rfl,p1,p2,p3,p4,p5⟩:=L2;have hm:=y9j q2 hle p2 p3
 have hw:IntKind.wrap .i64 (t.1+1)=t.1+1:=by
  have:=(yqy (l:=yeb s.2) p2 p3)
  refine yyb (by omega) ?_;cases hl:yeb s.2<;>simp only[hl,cond_true,cond_false]at * <;> omega
 refine⟨s.2,t.2,t.1+1,?_,hle,q2,p2,p3,by omega,by omega,by omega⟩;unfold zt;rw[e1];simp only;rw[e2];simp only[hw]
theorem yp5 (a:Int) (h1:0<=a) (h2:a<=99999):2000<=(zt a).1/\(zt a).1<=2273/\1<=(zt a).2.1/\(zt a).2.1<=12/\1<=(zt a).2.2/\(zt a).2.2<=31:=by
 obtain⟨y,m,d,e,hy,h⟩:=y57 a h1 h2;have hm:=y0m (l:=yeb y) h.2.1 h.2.2.1;rw[e];exact⟨h.1,hy,h.2.1,h.2.2.1,h.2.2.2.1,by show d<=31;have:=h.2.2.2.2.1;omega⟩
theorem yun (a:Int) (h1:0<=a) (h2:a<=1000):(zyd a 2).length<=2000:=by
 have hl:=yfc a;unfold zyd;rw[List.length_append,yrn,IntKind.wrap_i64];simp only[List.length_cons,List.length_nil,Nat.zero_add,Nat.one_mul];split<;>omega
def zbb (a0:Int):(List UInt8):=
 (bif (!(zqd a0))then[]else((((zl ((zt a0).1))++[45])++(zyd ((zt a0).2.1) 2))++[45])++(zyd ((zt a0).2.2) 2))
namespace N253
theorem DD:DOk Tryz.prog (Go.Ab.DD [(305,dP D_zt),(306,dP D_zyd),(46,dP D_zqd),(63,dP D_zl)]):=ya yy6.e <| ya yf3.e <| ya yiu.e <| ya yye.e <| ye _
theorem dn:type_of% (And.intro @D_zt.eq_1 <| And.intro @D_zyd.eq_1 <| And.intro @D_zqd.eq_1 <| @D_zl.eq_1):=by and_intros<;>intros<;>rfl
theorem gr {p:Prop} (h:p:=by(grind [yfc]);first|done|fail):p:=h
theorem o0 {p:Prop} (h:p:=by(first|(have hb9:0<=a0/\a0<=99999:=(by have hb8:=hb;simp[zqd,ze]at hb8;omega);have hr:=yp5 a0 hb9.1 hb9.2;have l1:=yfc (zt a0).1;have l2:=yun (zt a0).2.1 (by omega) (by omega);have l3:=yun (zt a0).2.2 (by omega) (by omega);(try simp only[List.length_append,List.length_cons,List.length_nil]);omega));first|done|fail):p:=h
theorem den (a0:Int)  : Den Tryz.prog 253 [.int .i64 a0] (.str (zbb a0)):=by
 generalize hR:zbb a0=r;unfold zbb at hR;refine di Tryz.func253 Tryz.ntmps253 Tryz.results253 ?_;intro c hL hc hk;clear hL;simp only[pars,Nat.zero_add];iterate 2 refine rS ?_
 refine AWP.cond rfl (fun hb => ?_) (fun hb => ?_)
 ·replace hR:=ct hR
  refine rS ?_;refine AWP.ret ?_;subst hR;exact es
 ·replace hR:=cf hR
  iterate 2 refine rS ?_
  refine AWP.ret ?_;subst hR;exact es
end N253
def D_zbb : DF
 | [x0]=>some (.str (zbb (rdI x0)),false,[wI .i64 x0])
 | _=>none
theorem ysu:OkD Tryz.prog 253 D_zbb:=by unfold D_zbb;exact dk N253.den
theorem yqs (a:Int):(zbb a).length<=10000:=by
 unfold zbb zqd ze;by_cases h:0<=a/\a<=99999
 ·have hr:=yp5 a h.1 h.2
  have l1:=yfc (zt a).1;have l2:=yun (zt a).2.1 (by omega) (by omega);have l3:=yun (zt a).2.2 (by omega) (by omega);simp only[h.1,h.2,decide_true,Bool.and_self,Bool.not_true,cond_false,List.length_append,List.length_cons,List.length_nil];omega
 ·have:(decide (0<=a) && decide (a<=99999))=false:=by simpa using h
  simp[this]
def ycx (a0:(List UInt8)) (i1:Nat) (s1:Int):Except ((Int×Bool)) (Int):=
 (bif (decide (((a0.getD i1 0).toNat:Int)<48) || decide (57<((a0.getD i1 0).toNat:Int)))then .error (0,false)else .ok (IntKind.wrap .i64 ((IntKind.wrap .i64 (10 * s1))+(IntKind.wrap .i64 (IntKind.wrap .u8 (((a0.getD i1 0).toNat:Int)-48))))))
def zr (a0:(List UInt8)):(Int×Bool):=
 (match yd (ycx a0) (a0.length-0) 0 0 with|.error e=>e|.ok s1=>(s1,(ze (a0.length:Int) 1 18)))
namespace N251
theorem DD:DOk Tryz.prog (Go.Ab.DD [(111,dP D_ze)]):=ya y7b.e <| ye _
theorem dn:type_of% (@D_ze.eq_1):=by and_intros<;>intros<;>rfl
theorem ol:type_of% (@ze.eq_1):=@ze.eq_1
theorem den (a0:(List UInt8))  : Den Tryz.prog 251 [.str a0] (.tup [.int .i64 ((zr a0).1),.bool ((zr a0).2)]):=by
 generalize hR:zr a0=r;unfold zr at hR;refine di Tryz.func251 Tryz.ntmps251 Tryz.results251 ?_;intro c hL hc hk;obtain⟨hL0,_⟩:=hL;have hw0:a0.length<9223372036854775808:=Nat.lt_succ_of_le hL0;clear hL0;simp only[pars,Nat.zero_add];iterate 3 refine rS ?_
 refine AWP.block ?_;generalize hz1:yd (ycx a0) (a0.length-0) 0 0=z1 at hR;refine AWP.range (ycx a0) (fun i1 s1=>⟨[(0,.str a0),(4,.int .i64 s1),(5,.int .i64 (i1:Int))],[]⟩) (fun i1 s1=>True) (a0.length) 0 0 [] hz1 ot wt sm ?_;clear hz1;intro i1 s1 hi1 hW1 hz1;refine rS ?_;refine AWP.cond rfl (fun hb => ?_) (fun hb => ?_)
 ·have hlt1:i1<a0.length:=ot
  rw[yg hlt1]at hz1;simp only[ycx]at hz1;refine rS ?_;refine AWP.cond rfl (fun hb => ?_) (fun hb => ?_)
  ·simp only[hb,cond_true]at hz1
   refine rS ?_;refine AWP.ret ?_;subst hz1;dsimp only at hR;subst hR;exact es
  ·simp only[hb,cond_false]at hz1
   iterate 2 refine rS ?_
   exact⟨_,[],hlt1,wt,hz1,sm⟩
 ·obtain rfl:i1=a0.length:=ot
  rw[yh (Nat.le_refl _)]at hz1;subst hz1;dsimp only at hR;refine AWP.exit ?_;refine yb ?_;refine rS ?_;refine AWP.ret ?_;subst hR;exact es
end N251
def D_zr : DF
 | [x0]=>some (.tup [.int .i64 ((zr (rdS x0)).1),.bool ((zr (rdS x0)).2)],false,[wS x0])
 | _=>none
theorem ym6:OkD Tryz.prog 251 D_zr:=by unfold D_zr;exact dk N251.den
def zdf (a0:Int):Bool:=
 (ze a0 1 12)
namespace N302
theorem DD:DOk Tryz.prog (Go.Ab.DD [(111,dP D_ze)]):=ya y7b.e <| ye _
theorem dn:type_of% (@D_ze.eq_1):=by and_intros<;>intros<;>rfl
theorem ol:type_of% (@ze.eq_1):=@ze.eq_1
theorem den (a0:Int)  : Den Tryz.prog 302 [.int .i64 a0] (.bool (zdf a0)):=by
 generalize hR:zdf a0=r;unfold zdf at hR;refine di Tryz.func302 Tryz.ntmps302 Tryz.results302 ?_;intro c hL hc hk;clear hL;simp only[pars,Nat.zero_add];iterate 2 refine rS ?_
 refine AWP.ret ?_;subst hR;exact es
end N302
def D_zdf : DF
 | [x0]=>some (.bool (zdf (rdI x0)),false,[wI .i64 x0])
 | _=>none
theorem y34:OkD Tryz.prog 302 D_zdf:=by unfold D_zdf;exact dk N302.den
def yjl (a0:Int) (i1:Nat) (s1:Int):Except (Int) (Int):=
 .ok (IntKind.wrap .i64 (s1+(zjb (i1:Int))))
def zfc (a0:Int):Int:=
 (match yd (yjl a0) ((a0).toNat-2000) 2000 0 with|.error e=>e|.ok s1=>s1)
namespace N330
theorem DD:DOk Tryz.prog (Go.Ab.DD [(331,dP D_zjb)]):=ya ygu.e <| ye _
theorem dn:type_of% (@D_zjb.eq_1):=by and_intros<;>intros<;>rfl
set_option maxHeartbeats 400000 in
set_option maxRecDepth 20000 in
theorem den (a0:Int) (hp0:2000<=a0) (hp1:a0<=2273):Den Tryz.prog 330 [.int .i64 a0] (.int .i64 (zfc a0)):=by
 generalize hR:zfc a0=r;unfold zfc at hR;refine di Tryz.func330 Tryz.ntmps330 Tryz.results330 ?_;intro c hL hc hk;clear hL;simp only[pars,Nat.zero_add];iterate 3 refine rS ?_
 refine AWP.block ?_;generalize hz1:yd (yjl a0) ((a0).toNat-2000) 2000 0=z1 at hR;refine AWP.range (yjl a0) (fun i1 s1=>⟨[(0,.int .i64 a0),(3,.int .i64 s1),(4,.int .i64 (i1:Int))],[]⟩) (fun i1 s1=>2000<=i1/\0<=s1/\s1<=366 * ((i1:Int)-2000)/\2000<=i1) ((a0).toNat) 2000 0 [] hz1 ot wt sm ?_;clear hz1;intro i1 s1 hi1 hW1 hz1;refine rS ?_;refine AWP.cond rfl (fun hb => ?_) (fun hb => ?_)
 ·have hlt1:i1<(a0).toNat:=ot
  rw[yg hlt1]at hz1;simp only[yjl]at hz1;iterate 2 refine rS ?_
  exact⟨_,[],hlt1,by(have h9:=ykj (i1:Int);simp only[ob,ln,ol]at *;omega),hz1,sm⟩
 ·obtain rfl:i1=(a0).toNat:=ot
  rw[yh (Nat.le_refl _)]at hz1;subst hz1;dsimp only at hR;refine AWP.exit ?_;refine yb ?_;refine rS ?_;refine AWP.ret ?_;subst hR;exact es
end N330
def D_zfc : DF
 | [x0]=>some (.int .i64 (zfc (rdI x0)),false,[wI .i64 x0,2000<=(rdI x0),(rdI x0)<=2273])
 | _=>none
theorem ys4:OkD Tryz.prog 330 D_zfc:=by unfold D_zfc;exact dk N330.den
theorem ynd {ρ σ:Type} {b:Nat->σ->Except ρ σ} {I:Nat->σ->Prop} (hi:∀ i s,I i s->∃ t,b i s=.ok t/\I (i+1) t) :
  ∀ (k i:Nat) (s:σ),I i s->∃ t,yd b k i s=.ok t/\I (i+k) t
 | 0,i,s,h=>⟨s,rfl,h⟩
 | k+1,i,s,h=>by
  obtain⟨t,h1,h2⟩:=hi i s h;obtain⟨u,h3,h4⟩:=ynd hi k (i+1) t h2;refine⟨u,?_,by rw[show i+(k+1)=i+1+k by omega];exact h4⟩;simp only[yd,h1,h3]
theorem yr7 (y:Int) (h1:2000<=y) (h2:y<=2273):0<=zfc y/\zfc y<=366 * 273:=by
 have hL:∀ k:Nat,k<=273->∃ t,yd (yjl y) k 2000 0=.ok t/\0<=t/\t<=366 * (k:Int):=by
  intro k hk
  obtain⟨t,e,_,h4⟩:=ynd (b:=yjl y) (I:=fun i t=>2000<=i/\(i<=2273->0<=t/\t<=366 * ((i:Int)-2000))) (fun i s hI=>by
   obtain⟨hI1,hI2⟩:=hI;refine⟨_,rfl,by omega,fun hle => ?_⟩;have h3:=hI2 (by omega);have h9:=ykj (i:Int);rw[IntKind.wrap_i64]
   omega) k 2000 0 ⟨by omega,fun _=>by omega⟩
  have:=h4 (by omega);exact⟨t,e,this.1,by omega⟩
 obtain⟨t,e,h3,h4⟩:=hL (y.toNat-2000) (by omega);unfold zfc;rw[e];simp only;exact⟨h3,by omega⟩
def ygr (a0:Int) (a1:Int) (a2:Int) (i1:Nat) (s1:Int):Except (Int) (Int):=
 .ok (IntKind.wrap .i64 (s1+(zx a0 (i1:Int))))
def zjd (a0:Int) (a1:Int) (a2:Int):Int:=
 (match yd (ygr a0 a1 a2) ((a1).toNat-1) 1 (IntKind.wrap .i64 ((IntKind.wrap .i64 ((zfc a0)+a2))-1))with|.error e=>e|.ok s1=>s1)
namespace N304
theorem DD:DOk Tryz.prog (Go.Ab.DD [(303,dP D_zx),(330,dP D_zfc)]):=ya yut.e <| ya ys4.e <| ye _
theorem dn:type_of% (And.intro @D_zx.eq_1 <| @D_zfc.eq_1):=by and_intros<;>intros<;>rfl
set_option maxHeartbeats 400000 in
set_option maxRecDepth 20000 in
theorem den (a0:Int) (a1:Int) (a2:Int) (hp0:2000<=a0) (hp1:a0<=2273) (hp2:1<=a1) (hp3:a1<=12) (hp4:1<=a2) (hp5:a2<=31):Den Tryz.prog 304 [.int .i64 a0,.int .i64 a1,.int .i64 a2] (.int .i64 (zjd a0 a1 a2)):=by
 generalize hR:zjd a0 a1 a2=r;unfold zjd at hR;refine di Tryz.func304 Tryz.ntmps304 Tryz.results304 ?_;intro c hL hc hk;clear hL;simp only[pars,Nat.zero_add];have hf9:=yr7 a0 hp0 hp1;iterate 3 refine rS ?_
 refine AWP.block ?_;generalize hz1:yd (ygr a0 a1 a2) ((a1).toNat-1) 1 (IntKind.wrap .i64 ((IntKind.wrap .i64 ((zfc a0)+a2))-1))=z1 at hR;refine AWP.range (ygr a0 a1 a2) (fun i1 s1=>⟨[(0,.int .i64 a0),(1,.int .i64 a1),(7,.int .i64 s1),(8,.int .i64 (i1:Int))],[]⟩) (fun i1 s1=>1<=i1/\0<=s1/\s1<=30+366 * 273+31 * ((i1:Int)-1)/\1<=i1) ((a1).toNat) 1 (IntKind.wrap .i64 ((IntKind.wrap .i64 ((zfc a0)+a2))-1)) [] hz1 ot wt sm ?_;clear hz1;intro i1 s1 hi1 hW1 hz1;refine rS ?_;refine AWP.cond rfl (fun hb => ?_) (fun hb => ?_)
 ·have hlt1:i1<(a1).toNat:=ot
  rw[yg hlt1]at hz1;simp only[ygr]at hz1;iterate 2 refine rS ?_
  exact⟨_,[],hlt1,by(have h9:=yqf a0 (i1:Int) (by omega) (by simp only[ob]at *;omega);simp only[ob,ln,ol]at *;omega),hz1,sm⟩
 ·obtain rfl:i1=(a1).toNat:=ot
  rw[yh (Nat.le_refl _)]at hz1;subst hz1;dsimp only at hR;refine AWP.exit ?_;refine yb ?_;refine rS ?_;refine AWP.ret ?_;subst hR;exact es
end N304
def D_zjd : DF
 | [x0,x1,x2]=>some (.int .i64 (zjd (rdI x0) (rdI x1) (rdI x2)),false,[wI .i64 x0,wI .i64 x1,wI .i64 x2,2000<=(rdI x0),(rdI x0)<=2273,1<=(rdI x1),(rdI x1)<=12,1<=(rdI x2),(rdI x2)<=31])
 | _=>none
theorem yw0:OkD Tryz.prog 304 D_zjd:=by unfold D_zjd;exact dk N304.den
def zwc (a0:Int) (a1:Int) (a2:Int):(Int×Int):=
 (bif ((((!(zxd a0)) || (!(zdf a1))) || (!(ze a2 1 (zx a0 a1)))) || (!(zqd (zjd a0 a1 a2))))then(0,2)else((zjd a0 a1 a2),0))
namespace N252
theorem DD:DOk Tryz.prog (Go.Ab.DD [(111,dP D_ze),(301,dP D_zxd),(302,dP D_zdf),(303,dP D_zx),(304,dP D_zjd),(46,dP D_zqd)]):=ya y7b.e <| ya yew.e <| ya y34.e <| ya yut.e <| ya yw0.e <| ya yiu.e <| ye _
theorem dn:type_of% (And.intro @D_ze.eq_1 <| And.intro @D_zxd.eq_1 <| And.intro @D_zdf.eq_1 <| And.intro @D_zx.eq_1 <| And.intro @D_zjd.eq_1 <| @D_zqd.eq_1):=by and_intros<;>intros<;>rfl
theorem ol:type_of% (@ze.eq_1):=@ze.eq_1
theorem o0 {p:Prop} (h:p:=by(first|(have h9:=yqf a0 a1;simp only[zxd,zdf,ze,Bool.not_or,Bool.not_not,Bool.and_eq_true,decide_eq_true_eq];refine⟨?_,?_⟩<;>intro h<;>omega)|(have h9:=yqf a0 a1;have hb8:=hb;simp[zxd,zdf,ze]at hb8;omega));first|done|fail):p:=h
theorem den (a0:Int) (a1:Int) (a2:Int)  : Den Tryz.prog 252 [.int .i64 a0,.int .i64 a1,.int .i64 a2] (.tup [.int .i64 ((zwc a0 a1 a2).1),.int .i64 ((zwc a0 a1 a2).2)]):=by
 generalize hR:zwc a0 a1 a2=r;unfold zwc at hR;refine di Tryz.func252 Tryz.ntmps252 Tryz.results252 ?_;intro c hL hc hk;clear hL;simp only[pars,Nat.zero_add];iterate 2 refine rS ?_
 refine AWP.cond rfl (fun hb => ?_) (fun hb => ?_)
 ·replace hR:=ct hR
  refine rS ?_;refine AWP.ret ?_;subst hR;exact es
 ·replace hR:=cf hR
  refine rS ?_;refine AWP.ret ?_;subst hR;exact es
end N252
def D_zwc : DF
 | [x0,x1,x2]=>some (.tup [.int .i64 ((zwc (rdI x0) (rdI x1) (rdI x2)).1),.int .i64 ((zwc (rdI x0) (rdI x1) (rdI x2)).2)],false,[wI .i64 x0,wI .i64 x1,wI .i64 x2])
 | _=>none
theorem y93:OkD Tryz.prog 252 D_zwc:=by unfold D_zwc;exact dk N252.den
def zde (a0:(List UInt8)):(Int×Bool):=
 (bif (((zb a0 [45]).length:Int) != 3)then(0,false)else(bif (((((!((zr ((zb a0 [45]).getD 0 default)).2)) || (!((zr ((zb a0 [45]).getD 1 default)).2))) || (!((zr ((zb a0 [45]).getD 2 default)).2))) || (((zwc ((zr ((zb a0 [45]).getD 0 default)).1) ((zr ((zb a0 [45]).getD 1 default)).1) ((zr ((zb a0 [45]).getD 2 default)).1)).2) != 0)) || ((zbb ((zwc ((zr ((zb a0 [45]).getD 0 default)).1) ((zr ((zb a0 [45]).getD 1 default)).1) ((zr ((zb a0 [45]).getD 2 default)).1)).1)) != a0))then(0,false)else((zwc ((zr ((zb a0 [45]).getD 0 default)).1) ((zr ((zb a0 [45]).getD 1 default)).1) ((zr ((zb a0 [45]).getD 2 default)).1)).1,true)))
namespace N179
theorem DD:DOk Tryz.prog (Go.Ab.DD [(251,dP D_zr),(252,dP D_zwc),(253,dP D_zbb),(80,dP D_zb)]):=ya ym6.e <| ya y93.e <| ya ysu.e <| ya yri.e <| ye _
theorem dn:type_of% (And.intro @D_zr.eq_1 <| And.intro @D_zwc.eq_1 <| And.intro @D_zbb.eq_1 <| @D_zb.eq_1):=by and_intros<;>intros<;>rfl
theorem gr {p:Prop} (h:p:=by(grind [yqs]);first|done|fail):p:=h
theorem den (a0:(List UInt8)) (hb0:a0.length<1099511627776) (hp0:a0.length<=1048576):Den Tryz.prog 179 [.str a0] (.tup [.int .i64 ((zde a0).1),.bool ((zde a0).2)]):=by
 generalize hR:zde a0=r;unfold zde at hR;refine di Tryz.func179 Tryz.ntmps179 Tryz.results179 ?_;intro c hL hc hk;obtain⟨hL0,_⟩:=hL;have hw0:a0.length<9223372036854775808:=Nat.lt_succ_of_le hL0;clear hL0;simp only[pars,Nat.zero_add];have hs9:=yjr a0 [45] (by omega);iterate 3 refine rS ?_
 refine AWP.cond rfl (fun hb => ?_) (fun hb => ?_)
 ·replace hR:=ct hR
  refine rS ?_;refine AWP.ret ?_;subst hR;exact es
 ·replace hR:=cf hR
  iterate 5 refine rS ?_
  refine AWP.cond rfl (fun hb => ?_) (fun hb => ?_)
  ·replace hR:=ct hR
   refine rS ?_;refine AWP.ret ?_;subst hR;exact es
  ·replace hR:=cf hR
   refine rS ?_;refine AWP.ret ?_;subst hR;exact es
end N179
def D_zde : DF
 | [x0]=>some (.tup [.int .i64 ((zde (rdS x0)).1),.bool ((zde (rdS x0)).2)],false,[wS x0,(rdS x0).length<1099511627776,(rdS x0).length<=1048576])
 | _=>none
theorem y33:OkD Tryz.prog 179 D_zde:=by unfold D_zde;exact dk N179.den
def ywz (a0:(List UInt8)) (i1:Nat) (s1:List (List UInt8)):Except ((List (List UInt8))) (List (List UInt8)):=
 (bif (((zb a0 [32]).getD i1 default) != [])then .ok (s1++[((zb a0 [32]).getD i1 default)])else .ok s1)
def zo (a0:(List UInt8)):(List (List UInt8)):=
 (match yd (ywz a0) (((zb a0 [32]).length)-0) 0 ([]:List (List UInt8))with|.error e=>e|.ok s1=>s1)
namespace N165
theorem DD:DOk Tryz.prog (Go.Ab.DD [(80,dP D_zb)]):=ya yri.e <| ye _
theorem dn:type_of% (@D_zb.eq_1):=by and_intros<;>intros<;>rfl
theorem den (a0:(List UInt8)) (hb0:a0.length<1099511627776) (hp0:a0.length<=1048576):Den Tryz.prog 165 [.str a0] (ownL 9 1 eS (zo a0)):=by
 generalize hR:zo a0=r;unfold zo at hR;refine di Tryz.func165 Tryz.ntmps165 Tryz.results165 ?_;intro c hL hc hk;obtain⟨hL0,_⟩:=hL;have hw0:a0.length<9223372036854775808:=Nat.lt_succ_of_le hL0;clear hL0;simp only[pars,Nat.zero_add];have hs9:=yjr a0 [32] (by omega);iterate 3 refine rS ?_
 refine AWP.block ?_;generalize hz1:yd (ywz a0) (((zb a0 [32]).length)-0) 0 ([]:List (List UInt8))=z1 at hR;refine AWP.range (ywz a0) (fun i1 s1=>⟨[(3,.ref 0 1 0 s1.length),(8,.ref 1 1 0 ((zb a0 [32]).length)),(9,.int .i64 ((zb a0 [32]).length:Int)),(10,.int .i64 (i1:Int))],[.arr 9 1 s1.length (fun j=>eS (s1.getD j default)),.arr 9 1 (zb a0 [32]).length (fun j=>eS ((zb a0 [32]).getD j default))]⟩) (fun i1 s1=>s1.length<=([]:List (List UInt8)).length+1 * i1/\s1.length<=i1) (((zb a0 [32]).length)) 0 ([]:List (List UInt8)) [0,1] hz1 ot wt sm ?_;clear hz1;intro i1 s1 hi1 hW1 hz1;refine rS ?_;refine AWP.seq ?_;refine AWP.cond rfl (fun hb => ?_) (fun hb => ?_)
 ·have hlt1:i1<((zb a0 [32]).length):=ot
  rw[yg hlt1]at hz1;simp only[ywz]at hz1;iterate 2 refine rS ?_
  refine AWP.cond rfl (fun hb => ?_) (fun hb => ?_)
  ·simp only[hb,cond_true]at hz1
   iterate 2 refine rS ?_
   exact⟨_,[3,1],hlt1,wt,hz1,sm⟩
  ·simp only[hb,cond_false]at hz1
   refine rS ?_;exact⟨_,[0,1],hlt1,wt,hz1,sm⟩
 ·obtain rfl:i1=((zb a0 [32]).length):=ot
  rw[yh (Nat.le_refl _)]at hz1;subst hz1;dsimp only at hR;refine AWP.exit ?_;refine yb ?_;refine rS ?_;refine AWP.ret ?_;subst hR;exact es
end N165
def D_zo : DF
 | [x0]=>some (ownL 9 1 eS (zo (rdS x0)),false,[wS x0,(rdS x0).length<1099511627776,(rdS x0).length<=1048576])
 | _=>none
theorem yd0:OkD Tryz.prog 165 D_zo:=by unfold D_zo;exact dk N165.den
theorem ytd (l:List (List UInt8)) (b:Nat->List (List UInt8)->Except (List (List UInt8)) (List (List UInt8))) (hb:∀ i s,b i s=(bif (l.getD i default) != []then .ok (s++[l.getD i default])else .ok s)) :
  ∀ (k i:Nat) (s:List (List UInt8)),i+k=l.length->yd b k i s=.ok (s++(l.drop i).filter (· != []))
 | 0,i,s,h=>by
  rw[List.drop_eq_nil_of_le (by omega)];simp[yd]
 | k+1,i,s,h=>by
  have hlt:i<l.length:=by omega
  have hg:l.getD i default=l[i]:=by simp[List.getD,List.getElem?_eq_getElem hlt]
  simp only[yd,hb,hg];rw[List.drop_eq_getElem_cons hlt,List.filter_cons]
  cases hc:(l[i] != [])with
  | true=>
   simp only[cond_true];rw[ytd l b hb k (i+1) _ (by omega)];simp
  | false=>
   simp only[cond_false];rw[ytd l b hb k (i+1) _ (by omega)];simp
theorem yr8 (a:List UInt8):zo a=(yf 32 a).filter (· != []):=by
 unfold zo;rw[ytd (zb a [32]) (ywz a) (fun i s=>rfl) _ 0 [] (by omega)];rfl
theorem ydy (a:List UInt8) (ha:a.length<=1048576):∀ x∈zo a,x.length<=1048576:=by
 intro x hx;rw[yr8]at hx;have:=(yu 32 a).2 x (List.mem_filter.1 hx).1;omega
theorem yhc {l:List (List UInt8)} (h:∀ x∈l,x.length<=1048576) (i:Nat):(l.getD i default).length<=1048576:=by
 by_cases hi:i<l.length
 ·rw[List.getD_eq_getElem?_getD,List.getElem?_eq_getElem hi]
  exact h _ (List.getElem_mem hi)
 ·rw[List.getD_eq_getElem?_getD,List.getElem?_eq_none (by omega)]
  show([]:List UInt8).length<=_;simp
def zgc (a0:Int):(List UInt8):=
 (zob a0 ([[],[70],[79,99],[73,115,111],[70,108],[76,70,108],[81],[86,81],[77,111]]:List (List UInt8)))
namespace N223
theorem DD:DOk Tryz.prog (Go.Ab.DD [(227,dP D_zob)]):=ya ygh.e <| ye _
theorem dn:type_of% (@D_zob.eq_1):=by and_intros<;>intros<;>rfl
theorem lx {p:Prop} (h:p:=by(exact lxx);first|done|fail):p:=h
theorem den (a0:Int)  : Den Tryz.prog 223 [.int .i64 a0] (.str (zgc a0)):=by
 generalize hR:zgc a0=r;unfold zgc at hR;refine di Tryz.func223 Tryz.ntmps223 Tryz.results223 ?_;intro c hL hc hk;clear hL;simp only[pars,Nat.zero_add];iterate 2 refine rS ?_
 refine AWP.ret ?_;subst hR;exact es
end N223
def D_zgc : DF
 | [x0]=>some (.str (zgc (rdI x0)),false,[wI .i64 x0])
 | _=>none
theorem ymv:OkD Tryz.prog 223 D_zgc:=by unfold D_zgc;exact dk N223.den
def zdd (a0:Int):(List UInt8):=
 (zob a0 ([[110,111,110,101],[108,101,102,116],[114,105,103,104,116],[110,111,114,116,104],[101,97,115,116],[115,111,117,116,104],[119,101,115,116],[100,97,110,103,101,114],[115,97,102,101],[115,112,101,99,105,97,108]]:List (List UInt8)))
namespace N147
theorem DD:DOk Tryz.prog (Go.Ab.DD [(227,dP D_zob)]):=ya ygh.e <| ye _
theorem dn:type_of% (@D_zob.eq_1):=by and_intros<;>intros<;>rfl
theorem lx {p:Prop} (h:p:=by(exact lxx);first|done|fail):p:=h
theorem den (a0:Int)  : Den Tryz.prog 147 [.int .i64 a0] (.str (zdd a0)):=by
 generalize hR:zdd a0=r;unfold zdd at hR;refine di Tryz.func147 Tryz.ntmps147 Tryz.results147 ?_;intro c hL hc hk;clear hL;simp only[pars,Nat.zero_add];iterate 2 refine rS ?_
 refine AWP.ret ?_;subst hR;exact es
end N147
def D_zdd : DF
 | [x0]=>some (.str (zdd (rdI x0)),false,[wI .i64 x0])
 | _=>none
theorem ypo:OkD Tryz.prog 147 D_zdd:=by unfold D_zdd;exact dk N147.den
theorem ysk (l:List (List UInt8)) (h:∀ x∈l,x.length<=100) (n:Nat):(l.getD n default).length<=100:=by
 rw[List.getD_eq_getElem?_getD]
 cases hg:l[n]? with
 | none=>show(0:Nat)<=100;omega
 | some x=>exact h x (List.mem_of_getElem? hg)
theorem y12 (k:Int) (l:List (List UInt8)) (h:∀ x∈l,x.length<=100):(zob k l).length<=100:=by
 unfold zob;simp only[Bool.cond_eq_ite];split
 ·simp
 ·exact ysk l h _
def zk (a0:(List UInt8)):(Int×Bool):=yzb a0
theorem yn8 (a0:(List UInt8)) (hp0:a0.length<=1048576):Den Tryz.prog 81 [.str a0] (.tup [.int .i64 ((zk a0).1),.bool ((zk a0).2)]):=by
 exact ylt a0 hp0
def D_zk : DF
 | [x0]=>some (.tup [.int .i64 ((zk (rdS x0)).1),.bool ((zk (rdS x0)).2)],false,[wS x0,(rdS x0).length<=1048576])
 | _=>none
theorem yti:OkD Tryz.prog 81 D_zk:=by
 intro xs r z ob h ho;unfold D_zk at h;split at h
 ·simp only[Option.some.injEq,Prod.mk.injEq]at h
  obtain⟨rfl,rfl,rfl⟩:=h;obtain⟨h0,hp0,_⟩:=ho;exact Den.sim (yn8 _ hp0) (yv (yfb h0).1 <| trivial) (y0 (yfb h0).2 <| rfl) rfl
 ·cases h
def y0t (a0:(List UInt8)) (s1:Int×Int):Except (Sum ((Character×Bool)) (Int×Int)) (Int×Int):=
 (bif decide (s1.1<=8)then(bif ((zgc s1.1) == ((zd ((zg a0 [43,76,70,108]).1) [40]).1))then .ok (IntKind.wrap .i64 (s1.1+1),s1.1)else .ok (IntKind.wrap .i64 (s1.1+1),s1.2))else .error (.inr (s1.1,s1.2)))
def ybt (a0:(List UInt8)) (s1:Int×Int) (i2:Nat) (s2:List Int):Except ((Character×Bool)) (List Int):=
 (bif (!((zk ((zb ((zg ((zd ((zg a0 [43,76,70,108]).1) [40]).2.1) [41]).1) [43]).getD i2 default)).2))then .error ({ Kind:=0,Group:=[],Letter:=[],Colors:=[],Period:=0:Character },false)else .ok (s2++([(zk ((zb ((zg ((zd ((zg a0 [43,76,70,108]).1) [40]).2.1) [41]).1) [43]).getD i2 default)).1]:List Int)))
def y5k (a0:(List UInt8)) (s3:Int×Int):Except (Sum ((Character×Bool)) (Int×Int)) (Int×Int):=
 (bif decide (s3.1<=8)then(bif ((zgc s3.1) == ((zd ((zg a0 [43,76,70,108]).1) [40]).1))then .ok (IntKind.wrap .i64 (s3.1+1),s3.1)else .ok (IntKind.wrap .i64 (s3.1+1),s3.2))else .error (.inr (s3.1,s3.2)))
def y8s (a0:(List UInt8)) (s3:Int×Int) (i4:Nat) (s4:List Int):Except ((Character×Bool)) (List Int):=
 (bif (!((zk ((zb ((zg ((zd ((zg a0 [43,76,70,108]).1) [40]).2.1) [41]).1) [43]).getD i4 default)).2))then .error ({ Kind:=0,Group:=[],Letter:=[],Colors:=[],Period:=0:Character },false)else .ok (s4++([(zk ((zb ((zg ((zd ((zg a0 [43,76,70,108]).1) [40]).2.1) [41]).1) [43]).getD i4 default)).1]:List Int)))
def zm (a0:(List UInt8)):(Character×Bool):=
 (bif (zg a0 [43,76,70,108]).2 then(match y5 (y0t a0) (((9-(1:Int)).toNat)+1) (1,0)with|.error (.inl e)=>e|.error (.inr s1)=>(bif (!((zd ((zg a0 [43,76,70,108]).1) [40]).2.2))then({ Kind:=s1.2,Group:=[],Letter:=[76],Colors:=[],Period:=0:Character },true)else(bif (s1.2 == 8)then({ Kind:=s1.2,Group:=[],Letter:=(zg ((zd ((zg a0 [43,76,70,108]).1) [40]).2.1) [41]).1,Colors:=[],Period:=0:Character },((zg ((zd ((zg a0 [43,76,70,108]).1) [40]).2.1) [41]).2 && (!((zg a0 [43,76,70,108]).2))))else(match yd (ybt a0 s1) (((zb ((zg ((zd ((zg a0 [43,76,70,108]).1) [40]).2.1) [41]).1) [43]).length)-0) 0 ([]:List Int)with|.error e=>e|.ok s2=>({ Kind:=s1.2,Group:=s2,Letter:=[76],Colors:=[],Period:=0:Character },(zg ((zd ((zg a0 [43,76,70,108]).1) [40]).2.1) [41]).2))))|.ok _=>default)else(match y5 (y5k a0) (((9-(1:Int)).toNat)+1) (1,0)with|.error (.inl e)=>e|.error (.inr s3)=>(bif (!((zd ((zg a0 [43,76,70,108]).1) [40]).2.2))then({ Kind:=s3.2,Group:=[],Letter:=[],Colors:=[],Period:=0:Character },true)else(bif (s3.2 == 8)then({ Kind:=s3.2,Group:=[],Letter:=(zg ((zd ((zg a0 [43,76,70,108]).1) [40]).2.1) [41]).1,Colors:=[],Period:=0:Character },((zg ((zd ((zg a0 [43,76,70,108]).1) [40]).2.1) [41]).2 && (!((zg a0 [43,76,70,108]).2))))else(match yd (y8s a0 s3) (((zb ((zg ((zd ((zg a0 [43,76,70,108]).1) [40]).2.1) [41]).1) [43]).length)-0) 0 ([]:List Int)with|.error e=>e|.ok s4=>({ Kind:=s3.2,Group:=s4,Letter:=[],Colors:=[],Period:=0:Character },(zg ((zd ((zg a0 [43,76,70,108]).1) [40]).2.1) [41]).2))))|.ok _=>default))
namespace N167
theorem DD:DOk Tryz.prog (Go.Ab.DD [(164,dP D_zd),(223,dP D_zgc),(243,dP D_zg),(80,dP D_zb),(81,dP D_zk)]):=ya yyl.e <| ya ymv.e <| ya y56.e <| ya yri.e <| ya yti.e <| ye _
theorem dn:type_of% (And.intro @D_zd.eq_1 <| And.intro @D_zgc.eq_1 <| And.intro @D_zg.eq_1 <| And.intro @D_zb.eq_1 <| @D_zk.eq_1):=by and_intros<;>intros<;>rfl
theorem gr {p:Prop} (h:p:=by(grind [yhf,yup]);first|done|fail):p:=h
theorem o0 {p:Prop} (h:p:=by(first|(and_intros<;>(first|omega|rfl|exact yhc c4 _)));first|done|fail):p:=h
theorem o2 {p:Prop} (h:p:=by(first|(and_intros<;>first|omega|(rw[IntKind.wrap_i64];omega)|(simp;(first|done|fail))|(intro i hi;exact y2e _ _ i hi)|(intro i hi;rw[y2e _ _ i hi];exact y9 _)|decide));first|done|fail):p:=h
set_option maxHeartbeats 2000000 in
set_option maxRecDepth 20000 in
theorem den (a0:(List UInt8)) (hb0:a0.length<1099511627776) (hp0:a0.length<=1048576):Den Tryz.prog 167 [.str a0] (.tup [.agg (ymb ((zm a0).1)),.bool ((zm a0).2)]):=by
 generalize hR:zm a0=r;unfold zm at hR;refine di Tryz.func167 Tryz.ntmps167 Tryz.results167 ?_;intro c hL hc hk;obtain⟨hL0,_⟩:=hL;have hw0:a0.length<9223372036854775808:=Nat.lt_succ_of_le hL0;clear hL0;simp only[pars,Nat.zero_add];have c1:=yup a0 [43,76,70,108];have c2:=yhf (zg a0 [43,76,70,108]).1 [40];have c3:=yup (zd (zg a0 [43,76,70,108]).1 [40]).2.1 [41];have c4:=(yjr (zg (zd (zg a0 [43,76,70,108]).1 [40]).2.1 [41]).1 [43] (by omega)).2;have c5:=(yjr (zg (zd (zg a0 [43,76,70,108]).1 [40]).2.1 [41]).1 [43] (by omega)).1;iterate 4 refine rS ?_
 refine AWP.cond rfl (fun hb => ?_) (fun hb => ?_)
 ·replace hR:=ct hR
  iterate 3 refine rS ?_
  refine AWP.block ?_;generalize hz1:y5 (y0t a0) (((9-(1:Int)).toNat)+1) (1,0)=z1 at hR;refine AWP.whileW (y0t a0) (fun s1=>⟨[(2,.ptr 0 0),(4,.ptr 1 0),(6,.bool ((zg a0 [43,76,70,108]).2)),(7,.str ((zd ((zg a0 [43,76,70,108]).1) [40]).1)),(8,.str ((zd ((zg a0 [43,76,70,108]).1) [40]).2.1)),(9,.bool ((zd ((zg a0 [43,76,70,108]).1) [40]).2.2)),(10,.int .i64 s1.1)],[.box [.int .i64 0,.nils,.str [],.str [],.int .i64 0],.box [.int .i64 s1.2,.nils,.str [76],.str [],.int .i64 0]]⟩) (fun s1=>1<=s1.1/\s1.1<=9) (fun s1=>(9-s1.1).toNat) (((9-(1:Int)).toNat)+1) (1,0) [0,1] hz1 m0 wt sm ?_;clear hz1;intro s1 k1 hW1 hm1 hz1;simp only[y0t]at hz1;refine rS ?_;refine AWP.cond rfl (fun hb => ?_) (fun hb => ?_)
  ·simp only[hb,cond_true]at hz1
   refine rS ?_;refine AWP.cond rfl (fun hb => ?_) (fun hb => ?_)
   ·simp only[hb,cond_true]at hz1
    iterate 2 refine rS ?_
    exact⟨_,[0,1],ms,wt,hz1,sm⟩
   ·simp only[hb,cond_false]at hz1
    refine rS ?_;exact⟨_,[0,1],ms,wt,hz1,sm⟩
  ·simp only[hb,cond_false]at hz1
   refine AWP.exit ?_;refine yb ?_;subst hz1;dsimp only at hR;refine rS ?_;refine AWP.cond rfl (fun hb => ?_) (fun hb => ?_)
   ·replace hR:=ct hR
    refine rS ?_;refine AWP.ret ?_;subst hR;exact es
   ·replace hR:=cf hR
    iterate 2 refine rS ?_
    refine AWP.cond rfl (fun hb => ?_) (fun hb => ?_)
    ·replace hR:=ct hR
     iterate 2 refine rS ?_
     refine AWP.ret ?_;subst hR;exact es
    ·replace hR:=cf hR
     refine rS ?_;refine AWP.block ?_;refine AWP.nilB 1 1 2 1 (fun _=>[]) rfl rfl ?_;try simp only[ea,absV,absVL,cput,gv,sv,dn,reduceCtorEq,reduceIte,Nat.reduceBEq,Nat.reduceAdd,Nat.reduceEqDiff,Nat.reduceLT,Nat.reduceLeDiff,Nat.reduceMul,Nat.reduceSub,BEq.rfl,beq_self_eq_true,Int.reduceToNat];generalize hz2:yd (ybt a0 (s1.1,s1.2)) (((zb ((zg ((zd ((zg a0 [43,76,70,108]).1) [40]).2.1) [41]).1) [43]).length)-0) 0 ([]:List Int)=z2 at hR;refine AWP.range (ybt a0 (s1.1,s1.2)) (fun i2 s2=>⟨[(2,.ptr 0 0),(4,.ptr 1 0),(12,.bool ((zg ((zd ((zg a0 [43,76,70,108]).1) [40]).2.1) [41]).2)),(61,.ref 3 1 0 ((zb ((zg ((zd ((zg a0 [43,76,70,108]).1) [40]).2.1) [41]).1) [43]).length)),(62,.int .i64 ((zb ((zg ((zd ((zg a0 [43,76,70,108]).1) [40]).2.1) [41]).1) [43]).length:Int)),(63,.int .i64 (i2:Int))],[.box [.int .i64 0,.nils,.str [],.str [],.int .i64 0],.box [.int .i64 s1.2,.ref 2 1 0 s2.length,.str [76],.str [],.int .i64 0],.arr 2 1 s2.length (fun j=>yt (s2.getD j default)),.arr 9 1 (zb ((zg ((zd ((zg a0 [43,76,70,108]).1) [40]).2.1) [41]).1) [43]).length (fun j=>eS ((zb ((zg ((zd ((zg a0 [43,76,70,108]).1) [40]).2.1) [41]).1) [43]).getD j default))]⟩) (fun i2 s2=>s2.length<=i2) (((zb ((zg ((zd ((zg a0 [43,76,70,108]).1) [40]).2.1) [41]).1) [43]).length)) 0 ([]:List Int) [0,1,3,2] hz2 ot wt sm ?_;clear hz2;intro i2 s2 hi2 hW2 hz2;refine rS ?_;refine AWP.seq ?_;refine AWP.cond rfl (fun hb => ?_) (fun hb => ?_)
     ·have hlt2:i2<((zb ((zg ((zd ((zg a0 [43,76,70,108]).1) [40]).2.1) [41]).1) [43]).length):=ot
      rw[yg hlt2]at hz2;simp only[ybt]at hz2;iterate 3 refine rS ?_
      refine AWP.cond rfl (fun hb => ?_) (fun hb => ?_)
      ·simp only[hb,cond_true]at hz2
       refine rS ?_;refine AWP.ret ?_;subst hz2;dsimp only at hR;subst hR;exact es
      ·simp only[hb,cond_false]at hz2
       iterate 2 refine rS ?_
       exact⟨_,[0,1,5,3],hlt2,wt,hz2,sm⟩
     ·obtain rfl:i2=((zb ((zg ((zd ((zg a0 [43,76,70,108]).1) [40]).2.1) [41]).1) [43]).length):=ot
      rw[yh (Nat.le_refl _)]at hz2;subst hz2;dsimp only at hR;refine AWP.exit ?_;refine yb ?_;refine rS ?_;refine AWP.ret ?_;subst hR;exact es
 ·replace hR:=cf hR
  iterate 2 refine rS ?_
  refine AWP.block ?_;generalize hz3:y5 (y5k a0) (((9-(1:Int)).toNat)+1) (1,0)=z3 at hR;refine AWP.whileW (y5k a0) (fun s3=>⟨[(2,.ptr 0 0),(4,.ptr 1 0),(6,.bool ((zg a0 [43,76,70,108]).2)),(7,.str ((zd ((zg a0 [43,76,70,108]).1) [40]).1)),(8,.str ((zd ((zg a0 [43,76,70,108]).1) [40]).2.1)),(9,.bool ((zd ((zg a0 [43,76,70,108]).1) [40]).2.2)),(10,.int .i64 s3.1)],[.box [.int .i64 0,.nils,.str [],.str [],.int .i64 0],.box [.int .i64 s3.2,.nils,.str [],.str [],.int .i64 0]]⟩) (fun s3=>1<=s3.1/\s3.1<=9) (fun s3=>(9-s3.1).toNat) (((9-(1:Int)).toNat)+1) (1,0) [0,1] hz3 m0 wt sm ?_;clear hz3;intro s3 k3 hW3 hm3 hz3;simp only[y5k]at hz3;refine rS ?_;refine AWP.cond rfl (fun hb => ?_) (fun hb => ?_)
  ·simp only[hb,cond_true]at hz3
   refine rS ?_;refine AWP.cond rfl (fun hb => ?_) (fun hb => ?_)
   ·simp only[hb,cond_true]at hz3
    iterate 2 refine rS ?_
    exact⟨_,[0,1],ms,wt,hz3,sm⟩
   ·simp only[hb,cond_false]at hz3
    refine rS ?_;exact⟨_,[0,1],ms,wt,hz3,sm⟩
  ·simp only[hb,cond_false]at hz3
   refine AWP.exit ?_;refine yb ?_;subst hz3;dsimp only at hR;refine rS ?_;refine AWP.cond rfl (fun hb => ?_) (fun hb => ?_)
   ·replace hR:=ct hR
    refine rS ?_;refine AWP.ret ?_;subst hR;exact es
   ·replace hR:=cf hR
    iterate 2 refine rS ?_
    refine AWP.cond rfl (fun hb => ?_) (fun hb => ?_)
    ·replace hR:=ct hR
     iterate 2 refine rS ?_
     refine AWP.ret ?_;subst hR;exact es
    ·replace hR:=cf hR
     refine rS ?_;refine AWP.block ?_;refine AWP.nilB 1 1 2 1 (fun _=>[]) rfl rfl ?_;try simp only[ea,absV,absVL,cput,gv,sv,dn,reduceCtorEq,reduceIte,Nat.reduceBEq,Nat.reduceAdd,Nat.reduceEqDiff,Nat.reduceLT,Nat.reduceLeDiff,Nat.reduceMul,Nat.reduceSub,BEq.rfl,beq_self_eq_true,Int.reduceToNat];generalize hz4:yd (y8s a0 (s3.1,s3.2)) (((zb ((zg ((zd ((zg a0 [43,76,70,108]).1) [40]).2.1) [41]).1) [43]).length)-0) 0 ([]:List Int)=z4 at hR;refine AWP.range (y8s a0 (s3.1,s3.2)) (fun i4 s4=>⟨[(2,.ptr 0 0),(4,.ptr 1 0),(12,.bool ((zg ((zd ((zg a0 [43,76,70,108]).1) [40]).2.1) [41]).2)),(61,.ref 3 1 0 ((zb ((zg ((zd ((zg a0 [43,76,70,108]).1) [40]).2.1) [41]).1) [43]).length)),(62,.int .i64 ((zb ((zg ((zd ((zg a0 [43,76,70,108]).1) [40]).2.1) [41]).1) [43]).length:Int)),(63,.int .i64 (i4:Int))],[.box [.int .i64 0,.nils,.str [],.str [],.int .i64 0],.box [.int .i64 s3.2,.ref 2 1 0 s4.length,.str [],.str [],.int .i64 0],.arr 2 1 s4.length (fun j=>yt (s4.getD j default)),.arr 9 1 (zb ((zg ((zd ((zg a0 [43,76,70,108]).1) [40]).2.1) [41]).1) [43]).length (fun j=>eS ((zb ((zg ((zd ((zg a0 [43,76,70,108]).1) [40]).2.1) [41]).1) [43]).getD j default))]⟩) (fun i4 s4=>s4.length<=i4) (((zb ((zg ((zd ((zg a0 [43,76,70,108]).1) [40]).2.1) [41]).1) [43]).length)) 0 ([]:List Int) [0,1,3,2] hz4 ot wt sm ?_;clear hz4;intro i4 s4 hi4 hW4 hz4;refine rS ?_;refine AWP.seq ?_;refine AWP.cond rfl (fun hb => ?_) (fun hb => ?_)
     ·have hlt4:i4<((zb ((zg ((zd ((zg a0 [43,76,70,108]).1) [40]).2.1) [41]).1) [43]).length):=ot
      rw[yg hlt4]at hz4;simp only[y8s]at hz4;iterate 3 refine rS ?_
      refine AWP.cond rfl (fun hb => ?_) (fun hb => ?_)
      ·simp only[hb,cond_true]at hz4
       refine rS ?_;refine AWP.ret ?_;subst hz4;dsimp only at hR;subst hR;exact es
      ·simp only[hb,cond_false]at hz4
       iterate 2 refine rS ?_
       exact⟨_,[0,1,5,3],hlt4,wt,hz4,sm⟩
     ·obtain rfl:i4=((zb ((zg ((zd ((zg a0 [43,76,70,108]).1) [40]).2.1) [41]).1) [43]).length):=ot
      rw[yh (Nat.le_refl _)]at hz4;subst hz4;dsimp only at hR;refine AWP.exit ?_;refine yb ?_;refine rS ?_;refine AWP.ret ?_;subst hR;exact es
end N167
def D_zm : DF
 | [x0]=>some (.tup [.agg (ymb ((zm (rdS x0)).1)),.bool ((zm (rdS x0)).2)],false,[wS x0,(rdS x0).length<1099511627776,(rdS x0).length<=1048576])
 | _=>none
theorem yt6:OkD Tryz.prog 167 D_zm:=by unfold D_zm;exact dk N167.den
theorem ym2 (k:Int) (l:List (List UInt8)) (h:0<=k) (h2:k<(l.length:Int)):zob k l=l.getD k.toNat default:=by
 unfold zob zjf;rw[decide_eq_true h,decide_eq_true h2];rfl
def zee (a0:(List UInt8)):(Point×Bool):=
 (bif (((!((zk ((zd a0 [44]).1)).2)) || (!((zk ((zd a0 [44]).2.1)).2))) || (!(zhd ({ X:=(zk ((zd a0 [44]).1)).1,Y:=(zk ((zd a0 [44]).2.1)).1:Point }))))then({ X:=0,Y:=0:Point },false)else({ X:=(zk ((zd a0 [44]).1)).1,Y:=(zk ((zd a0 [44]).2.1)).1:Point },true))
namespace N82
theorem DD:DOk Tryz.prog (Go.Ab.DD [(133,dP D_zhd),(164,dP D_zd),(81,dP D_zk)]):=ya ywn.e <| ya yyl.e <| ya yti.e <| ye _
theorem dn:type_of% (And.intro @D_zhd.eq_1 <| And.intro @D_zd.eq_1 <| @D_zk.eq_1):=by and_intros<;>intros<;>rfl
theorem gr {p:Prop} (h:p:=by(grind [yhf]);first|done|fail):p:=h
set_option maxHeartbeats 1000000 in
set_option maxRecDepth 20000 in
theorem den (a0:(List UInt8)) (hb0:a0.length<1099511627776) (hp0:a0.length<=1048576):Den Tryz.prog 82 [.str a0] (.tup [.agg (ygd ((zee a0).1)),.bool ((zee a0).2)]):=by
 generalize hR:zee a0=r;unfold zee at hR;refine di Tryz.func82 Tryz.ntmps82 Tryz.results82 ?_;intro c hL hc hk;obtain⟨hL0,_⟩:=hL;have hw0:a0.length<9223372036854775808:=Nat.lt_succ_of_le hL0;clear hL0;simp only[pars,Nat.zero_add];have c1:=yhf a0 [44];iterate 6 refine rS ?_
 refine AWP.cond rfl (fun hb => ?_) (fun hb => ?_)
 ·replace hR:=ct hR
  refine rS ?_;refine AWP.ret ?_;subst hR;exact es
 ·replace hR:=cf hR
  refine rS ?_;refine AWP.ret ?_;subst hR;exact es
end N82
def D_zee : DF
 | [x0]=>some (.tup [.agg (ygd ((zee (rdS x0)).1)),.bool ((zee (rdS x0)).2)],false,[wS x0,(rdS x0).length<1099511627776,(rdS x0).length<=1048576])
 | _=>none
theorem y43:OkD Tryz.prog 82 D_zee:=by unfold D_zee;exact dk N82.den
def yru (a0:(List UInt8)) (s1:Int):Except (Sum ((Int×Bool)) (Int)) (Int):=
 (bif decide (s1<=9)then(bif ((zdd s1) == a0)then .error (.inl (s1,true))else .ok (IntKind.wrap .i64 (s1+1)))else .error (.inr s1))
def zxc (a0:(List UInt8)):(Int×Bool):=
 (match y5 (yru a0) (((10-(0:Int)).toNat)+1) 0 with|.error (.inl e)=>e|.error (.inr s1)=>(0,false)|.ok _=>default)
namespace N166
theorem DD:DOk Tryz.prog (Go.Ab.DD [(147,dP D_zdd)]):=ya ypo.e <| ye _
theorem dn:type_of% (@D_zdd.eq_1):=by and_intros<;>intros<;>rfl
theorem den (a0:(List UInt8))  : Den Tryz.prog 166 [.str a0] (.tup [.int .i64 ((zxc a0).1),.bool ((zxc a0).2)]):=by
 generalize hR:zxc a0=r;unfold zxc at hR;refine di Tryz.func166 Tryz.ntmps166 Tryz.results166 ?_;intro c hL hc hk;obtain⟨hL0,_⟩:=hL;have hw0:a0.length<9223372036854775808:=Nat.lt_succ_of_le hL0;clear hL0;simp only[pars,Nat.zero_add];iterate 2 refine rS ?_
 refine AWP.block ?_;generalize hz1:y5 (yru a0) (((10-(0:Int)).toNat)+1) 0=z1 at hR;refine AWP.whileW (yru a0) (fun s1=>⟨[(0,.str a0),(4,.int .i64 s1)],[]⟩) (fun s1=>0<=s1/\s1<=10) (fun s1=>(10-s1).toNat) (((10-(0:Int)).toNat)+1) 0 [] hz1 m0 wt sm ?_;clear hz1;intro s1 k1 hW1 hm1 hz1;simp only[yru]at hz1;refine rS ?_;refine AWP.cond rfl (fun hb => ?_) (fun hb => ?_)
 ·simp only[hb,cond_true]at hz1
  refine rS ?_;refine AWP.cond rfl (fun hb => ?_) (fun hb => ?_)
  ·simp only[hb,cond_true]at hz1
   refine rS ?_;refine AWP.ret ?_;subst hz1;dsimp only at hR;subst hR;exact es
  ·simp only[hb,cond_false]at hz1
   refine rS ?_;exact⟨_,[],ms,wt,hz1,sm⟩
 ·simp only[hb,cond_false]at hz1
  refine AWP.exit ?_;refine yb ?_;subst hz1;dsimp only at hR;refine rS ?_;refine AWP.ret ?_;subst hR;exact es
end N166
def D_zxc : DF
 | [x0]=>some (.tup [.int .i64 ((zxc (rdS x0)).1),.bool ((zxc (rdS x0)).2)],false,[wS x0])
 | _=>none
theorem y02:OkD Tryz.prog 166 D_zxc:=by unfold D_zxc;exact dk N166.den
def CBd (r:Character×Bool):Prop:=r.1.Group.length<=1048577/\r.1.Letter.length<=1048577/\r.1.Colors.length<=0
theorem cbd0 (b:Bool):CBd ({ Kind:=0,Group:=[],Letter:=[],Colors:=[],Period:=0:Character },b):=⟨by simp,by simp,by simp⟩
theorem y45 (n : Nat) (hn : n <= 1048577) (b : Nat -> List Int -> Except (Character × Bool) (List Int)) (hb : ∀ i s, (∃ x, b i s = .ok (s ++ [x])) \/ ∃ e, b i s = .error e /\ CBd e) (f : List Int -> Character × Bool)
  (hf:∀ s,s.length<=1048577->CBd (f s)):CBd (match yd b (n-0) 0 ([]:List Int)with|.error e=>e|.ok s=>f s):=by
 cases h:yd b (n-0) 0 ([]:List Int)with
 | error e=>
  obtain⟨j,t,_,_,h3⟩:=y1e h;rcases hb j t with⟨x,hx⟩|⟨e',he,hc⟩
  ·rw[hx]at h3;cases h3
  ·rw[he]at h3;cases h3;exact hc
 | ok s=>
  have hk:=yeg (fun i s=>s.length<=i) h (by simp) (fun j u v _ _ hu hv=>by
   rcases hb j u with⟨x,hx⟩|⟨e',he,hc⟩
   ·rw[hx]at hv
    simp only[Except.ok.injEq]at hv;subst hv;simp only[List.length_append,List.length_singleton];omega
   ·rw[he]at hv;cases hv)
  exact hf s (by omega)
theorem yns (a:List UInt8) (ha:a.length<=1048576):CBd (zm a):=by
  have c1:=yup a [43,76,70,108];have c2:=yhf (zg a [43,76,70,108]).1 [40];have c3:=yup (zd (zg a [43,76,70,108]).1 [40]).2.1 [41];have c4:=(yjr (zg (zd (zg a [43,76,70,108]).1 [40]).2.1 [41]).1 [43] (by omega)).1
  have hw:∀ (b:Int×Int->Except (Sum (Character×Bool) (Int×Int)) (Int×Int)) (n:Nat) (s:Int×Int) (f:Int×Int->Character×Bool),(∀ s,match b s with|.error (.inl e)=>False|_=>True)->(∀ s,CBd (f s))->CBd (default:Character×Bool) ->
      CBd (match y5 b n s with|.error (.inl e)=>e|.error (.inr s)=>f s|.ok _=>default):=by
    intro b n s f hb hf hd
    have h:=yqk (body:=b) (I:=fun _=>True) (Q:=fun r=>match r with|.inl e=>False|.inr _=>True) (fun s _=>by
      have:=hb s
      cases hbs:b s with
      | error r => rw [hbs] at this; cases r with
        | inl e=>exact this
        | inr t=>trivial
      | ok t=>trivial) n s trivial
    cases hl:y5 b n s with
    | error r=>
      rw[hl]at h
      cases r with
      | inl e=>exact h.elim
      | inr t=>exact hf t
    | ok t=>exact hd
  have hdef:CBd (default:Character×Bool):=⟨by show(0:Nat)<=_;omega,by show(0:Nat)<=_;omega,by show(0:Nat)<=_;omega⟩
  unfold zm
  cases(zg a [43,76,70,108]).2 with
  | true=>
    simp only[cond_true];refine hw _ _ _ _ (fun s => ?_) (fun s => ?_) hdef
    . unfold y0t
      cases decide (s.1<=8)with
      | false=>trivial
      | true=>
        simp only[cond_true]
        cases((zgc s.1) == ((zd ((zg a [43,76,70,108]).1) [40]).1))with
        | true=>trivial
        | false=>trivial
    . cases(!((zd ((zg a [43,76,70,108]).1) [40]).2.2))with
      | true=>exact⟨by simp,by simp,by simp⟩
      | false=>
        simp only[cond_false]
        cases(s.2 == 8)with
        | true=>exact⟨by simp,by simp only[cond_true];omega,by simp⟩
        | false=>
          simp only[cond_false];refine y45 _ c4 _ (fun i t => ?_) (fun t=>({ Kind:=s.2,Group:=t,Letter:=[76],Colors:=[],Period:=0:Character },_)) (fun t ht=>⟨ht,by simp,by simp⟩);unfold ybt
          cases(!((zk ((zb ((zg ((zd ((zg a [43,76,70,108]).1) [40]).2.1) [41]).1) [43]).getD i default)).2))with
          | true=>exact .inr ⟨_,rfl,cbd0 _⟩
          | false=>exact .inl ⟨_,rfl⟩
  | false=>
    simp only[cond_false];refine hw _ _ _ _ (fun s => ?_) (fun s => ?_) hdef
    . unfold y5k
      cases decide (s.1<=8)with
      | false=>trivial
      | true=>
        simp only[cond_true]
        cases((zgc s.1) == ((zd ((zg a [43,76,70,108]).1) [40]).1))with
        | true=>trivial
        | false=>trivial
    . cases(!((zd ((zg a [43,76,70,108]).1) [40]).2.2))with
      | true=>exact⟨by simp,by simp,by simp⟩
      | false=>
        simp only[cond_false]
        cases(s.2 == 8)with
        | true=>exact⟨by simp,by simp only[cond_true];omega,by simp⟩
        | false=>
          simp only[cond_false];refine y45 _ c4 _ (fun i t => ?_) (fun t=>({ Kind:=s.2,Group:=t,Letter:=[],Colors:=[],Period:=0:Character },_)) (fun t ht=>⟨ht,by simp,by simp⟩);unfold y8s
          cases(!((zk ((zb ((zg ((zd ((zg a [43,76,70,108]).1) [40]).2.1) [41]).1) [43]).getD i default)).2))with
          | true=>exact .inr ⟨_,rfl,cbd0 _⟩
          | false=>exact .inl ⟨_,rfl⟩
end Go.Ab
