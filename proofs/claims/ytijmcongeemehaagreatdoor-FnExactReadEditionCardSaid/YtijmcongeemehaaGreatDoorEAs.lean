/- A part of a proof: walks of functions and lemmas of our own. No conditions. -/
import Derived.Test.YtijmcongeemehaaGreatDoorEAl
import Derived.Test.YtijmcongeemehaaGreatDoorEAr
import Derived.Test.YtijmcongeemehaaGreatDoorEAk
import Derived.Test.YtijmcongeemehaaGreatDoorEAi
import Derived.Test.YtijmcongeemehaaGreatDoorEAp
set_option linter.unusedSectionVars false
set_option linter.unusedVariables false
set_option linter.unusedSimpArgs false
set_option maxHeartbeats 1000000
namespace Go.Ab
open Go Go.Proofs
def zlg (a0:Character) (a1:Character):Bool:=
 (((((a0.Kind == a1.Kind) && (zce a0.Group a1.Group)) && (a0.Letter == a1.Letter)) && (a0.Colors == a1.Colors)) && (a0.Period == a1.Period))
namespace N86
theorem DD:DOk Tryz.prog (Go.Ab.DD [(170,dP D_zce)]):=ya yn2.e <| ye _
theorem dn:type_of% (@D_zce.eq_1):=by and_intros<;>intros<;>rfl
theorem den (a0:Character) (a1:Character)  : Den Tryz.prog 86 [.agg (yi a0),.agg (yi a1)] (.bool (zlg a0 a1)):=by
 generalize hR:zlg a0 a1=r;unfold zlg at hR;refine di Tryz.func86 Tryz.ntmps86 Tryz.results86 ?_;intro c hL hc hk;obtain⟨hL0,hL1,_⟩:=hL;have hw0:bwCharacter a0:=yp a0 hL0;have hw1:bwCharacter a1:=yp a1 hL1;clear hL0 hL1;simp only[pars,Nat.zero_add];iterate 2 refine rS ?_
 refine AWP.ret ?_;subst hR;exact es
end N86
def D_zlg : DF
 | [x0,x1]=>some (.bool (zlg (rdG yc x0) (rdG yc x1)),false,[wG yi yc x0,wG yi yc x1])
 | _=>none
theorem y52:OkD Tryz.prog 86 D_zlg:=by unfold D_zlg;exact dk N86.den
def zdg (a0:Aid):Bool:=
 (((zlg a0.Light ({ Kind:=0,Group:=[],Letter:=[],Colors:=[],Period:=0:Character })) && ((a0.Sectors.length:Int) == 0)) && (a0.Intensity == 0))
namespace N136
theorem DD:DOk Tryz.prog (Go.Ab.DD [(86,dP D_zlg)]):=ya y52.e <| ye _
theorem dn:type_of% (@D_zlg.eq_1):=by and_intros<;>intros<;>rfl
theorem den (a0:Aid)  : Den Tryz.prog 136 [.agg (eAid a0)] (.bool (zdg a0)):=by
 generalize hR:zdg a0=r;unfold zdg at hR;refine di Tryz.func136 Tryz.ntmps136 Tryz.results136 ?_;intro c hL hc hk;obtain⟨hL0,_⟩:=hL;have hw0:bwAid a0:=ytc a0 hL0;clear hL0;simp only[pars,Nat.zero_add];iterate 2 refine rS ?_
 refine AWP.ret ?_;subst hR;exact es
end N136
def D_zdg : DF
 | [x0]=>some (.bool (zdg (rdG dAid x0)),false,[wG eAid dAid x0])
 | _=>none
theorem ye1:OkD Tryz.prog 136 D_zdg:=by unfold D_zdg;exact dk N136.den
def zeg (a0:Int):Bool:=
 (ze a0 1 100000000)
namespace N138
theorem DD:DOk Tryz.prog (Go.Ab.DD [(111,dP D_ze)]):=ya y7b.e <| ye _
theorem dn:type_of% (@D_ze.eq_1):=by and_intros<;>intros<;>rfl
theorem ol:type_of% (@ze.eq_1):=@ze.eq_1
theorem den (a0:Int)  : Den Tryz.prog 138 [.int .i64 a0] (.bool (zeg a0)):=by
 generalize hR:zeg a0=r;unfold zeg at hR;refine di Tryz.func138 Tryz.ntmps138 Tryz.results138 ?_;intro c hL hc hk;clear hL;simp only[pars,Nat.zero_add];iterate 2 refine rS ?_
 refine AWP.ret ?_;subst hR;exact es
end N138
def D_zeg : DF
 | [x0]=>some (.bool (zeg (rdI x0)),false,[wI .i64 x0])
 | _=>none
theorem yn1:OkD Tryz.prog 138 D_zeg:=by unfold D_zeg;exact dk N138.den
def zqd (a0:Int):Bool:=
 (ze a0 0 99999)
namespace N46
theorem DD:DOk Tryz.prog (Go.Ab.DD [(111,dP D_ze)]):=ya y7b.e <| ye _
theorem dn:type_of% (@D_ze.eq_1):=by and_intros<;>intros<;>rfl
theorem ol:type_of% (@ze.eq_1):=@ze.eq_1
theorem den (a0:Int)  : Den Tryz.prog 46 [.int .i64 a0] (.bool (zqd a0)):=by
 generalize hR:zqd a0=r;unfold zqd at hR;refine di Tryz.func46 Tryz.ntmps46 Tryz.results46 ?_;intro c hL hc hk;clear hL;simp only[pars,Nat.zero_add];iterate 2 refine rS ?_
 refine AWP.ret ?_;subst hR;exact es
end N46
def D_zqd : DF
 | [x0]=>some (.bool (zqd (rdI x0)),false,[wI .i64 x0])
 | _=>none
theorem yiu:OkD Tryz.prog 46 D_zqd:=by unfold D_zqd;exact dk N46.den
def zxd (a0:Int):Bool:=
 (ze a0 2000 2273)
namespace N301
theorem DD:DOk Tryz.prog (Go.Ab.DD [(111,dP D_ze)]):=ya y7b.e <| ye _
theorem dn:type_of% (@D_ze.eq_1):=by and_intros<;>intros<;>rfl
theorem ol:type_of% (@ze.eq_1):=@ze.eq_1
theorem den (a0:Int)  : Den Tryz.prog 301 [.int .i64 a0] (.bool (zxd a0)):=by
 generalize hR:zxd a0=r;unfold zxd at hR;refine di Tryz.func301 Tryz.ntmps301 Tryz.results301 ?_;intro c hL hc hk;clear hL;simp only[pars,Nat.zero_add];iterate 2 refine rS ?_
 refine AWP.ret ?_;subst hR;exact es
end N301
def D_zxd : DF
 | [x0]=>some (.bool (zxd (rdI x0)),false,[wI .i64 x0])
 | _=>none
theorem yew:OkD Tryz.prog 301 D_zxd:=by unfold D_zxd;exact dk N301.den
def zid (a0:Int):Bool:=
 ((zxd a0) && ((((a0.tmod 4) == 0) && ((a0.tmod 100) != 0)) || ((a0.tmod 400) == 0)))
namespace N329
theorem DD:DOk Tryz.prog (Go.Ab.DD [(301,dP D_zxd)]):=ya yew.e <| ye _
theorem dn:type_of% (@D_zxd.eq_1):=by and_intros<;>intros<;>rfl
theorem den (a0:Int)  : Den Tryz.prog 329 [.int .i64 a0] (.bool (zid a0)):=by
 generalize hR:zid a0=r;unfold zid at hR;refine di Tryz.func329 Tryz.ntmps329 Tryz.results329 ?_;intro c hL hc hk;clear hL;simp only[pars,Nat.zero_add];iterate 2 refine rS ?_
 refine AWP.ret ?_;subst hR;exact es
end N329
def D_zid : DF
 | [x0]=>some (.bool (zid (rdI x0)),false,[wI .i64 x0])
 | _=>none
theorem yhv:OkD Tryz.prog 329 D_zid:=by unfold D_zid;exact dk N329.den
def zx (a0:Int) (a1:Int):Int:=
 (bif ((a1 == 2) && (zid a0))then 29 else([31,28,31,30,31,30,31,31,30,31,30,31]:List Int).getD ((IntKind.wrap .i64 (a1-1)).toNat) 0)
namespace N303
theorem DD:DOk Tryz.prog (Go.Ab.DD [(329,dP D_zid)]):=ya yhv.e <| ye _
theorem dn:type_of% (@D_zid.eq_1):=by and_intros<;>intros<;>rfl
theorem den (a0:Int) (a1:Int) (hp0:1<=a1) (hp1:a1<=12):Den Tryz.prog 303 [.int .i64 a0,.int .i64 a1] (.int .i64 (zx a0 a1)):=by
 generalize hR:zx a0 a1=r;unfold zx at hR;refine di Tryz.func303 Tryz.ntmps303 Tryz.results303 ?_;intro c hL hc hk;clear hL;simp only[pars,Nat.zero_add];iterate 2 refine rS ?_
 refine AWP.cond rfl (fun hb => ?_) (fun hb => ?_)
 ·replace hR:=ct hR
  refine rS ?_;refine AWP.ret ?_;subst hR;exact es
 ·replace hR:=cf hR
  refine rS ?_;refine AWP.ret ?_;subst hR;exact es
end N303
def D_zx : DF
 | [x0,x1]=>some (.int .i64 (zx (rdI x0) (rdI x1)),false,[wI .i64 x0,wI .i64 x1,1<=(rdI x1),(rdI x1)<=12])
 | _=>none
theorem yut:OkD Tryz.prog 303 D_zx:=by unfold D_zx;exact dk N303.den
def zjb (a0:Int):Int:=
 (bif (zid a0)then 366 else 365)
namespace N331
theorem DD:DOk Tryz.prog (Go.Ab.DD [(329,dP D_zid)]):=ya yhv.e <| ye _
theorem dn:type_of% (@D_zid.eq_1):=by and_intros<;>intros<;>rfl
theorem den (a0:Int)  : Den Tryz.prog 331 [.int .i64 a0] (.int .i64 (zjb a0)):=by
 generalize hR:zjb a0=r;unfold zjb at hR;refine di Tryz.func331 Tryz.ntmps331 Tryz.results331 ?_;intro c hL hc hk;clear hL;simp only[pars,Nat.zero_add];iterate 2 refine rS ?_
 refine AWP.cond rfl (fun hb => ?_) (fun hb => ?_)
 ·replace hR:=ct hR
  refine rS ?_;refine AWP.ret ?_;subst hR;exact es
 ·replace hR:=cf hR
  refine rS ?_;refine AWP.ret ?_;subst hR;exact es
end N331
def D_zjb : DF
 | [x0]=>some (.int .i64 (zjb (rdI x0)),false,[wI .i64 x0])
 | _=>none
theorem ygu:OkD Tryz.prog 331 D_zjb:=by unfold D_zjb;exact dk N331.den
def yps (y m:Int):Int:=(bif zid y && decide (m<=2)then 1 else 0)+([365,334,306,275,245,214,184,153,122,92,61,31]:List Int).getD (m-1).toNat 0
theorem yrf (y : Int) : zx y 1 = 31 /\ zx y 2 = (bif zid y then 29 else 28) /\ zx y 3 = 31 /\ zx y 4 = 30 /\ zx y 5 = 31 /\ zx y 6 = 30
  /\ zx y 7=31/\zx y 8=31/\zx y 9=30/\zx y 10=31/\zx y 11=30/\zx y 12=31:=by
 simp[zx,IntKind.wrap_i64]
theorem y3r (y:Int):yps y 1=zjb y:=by
 unfold zjb yps;cases zid y<;>rfl
theorem y8i (y m d:Int) (h1:1<=m) (h2:m<=12) (h3:d<yps y m) (h4:zx y m<=d):m<=11/\d-zx y m<yps y (m+1)/\28<=zx y m/\zx y m<=31:=by
 obtain⟨e1,e2,e3,e4,e5,e6,e7,e8,e9,e10,e11,e12⟩:=yrf y
 rcases y8e h1 h2 with rfl|rfl|rfl|rfl|rfl|rfl|rfl|rfl|rfl|rfl|rfl|rfl<;>
  simp only[*]at h4 ⊢ <;> simp[yps]at h3 ⊢ <;> cases hl:zid y<;>simp_all<;>omega
theorem yqf (y m:Int) (h1:1<=m) (h2:m<=12):28<=zx y m/\zx y m<=31:=by
 obtain⟨e1,e2,e3,e4,e5,e6,e7,e8,e9,e10,e11,e12⟩:=yrf y;rcases y8e h1 h2 with rfl|rfl|rfl|rfl|rfl|rfl|rfl|rfl|rfl|rfl|rfl|rfl<;>simp only[*]<;>cases zid y<;>simp
theorem ykj (y:Int):zjb y=365\/zjb y=366:=by
 unfold zjb;cases zid y<;>simp
def yow (a0:Int) (s1:Int×Int):Except (Sum ((Int×Int×Int)) (Int×Int)) (Int×Int):=
 (bif decide ((zjb s1.2)<=s1.1)then .ok (IntKind.wrap .i64 (s1.1-(zjb s1.2)),IntKind.wrap .i64 (s1.2+1))else .error (.inr (s1.1,s1.2)))
def ylw (a0:Int) (s1:Int×Int) (s2:Int×Int):Except (Sum ((Int×Int×Int)) (Int×Int)) (Int×Int):=
 (bif decide ((zx s1.2 s2.2)<=s2.1)then .ok (IntKind.wrap .i64 (s2.1-(zx s1.2 s2.2)),IntKind.wrap .i64 (s2.2+1))else .error (.inr (s2.1,s2.2)))
def zt (a0:Int):(Int×Int×Int):=
 (match y5 (yow a0) (((a0).toNat)+1) (a0,2000)with|.error (.inl e)=>e|.error (.inr s1)=>(match y5 (ylw a0 s1) (((s1.1).toNat)+1) (s1.1,1)with|.error (.inl e)=>e|.error (.inr s2)=>(s1.2,s2.2,IntKind.wrap .i64 (s2.1+1))|.ok _=>default)|.ok _=>default)
namespace N305
theorem DD:DOk Tryz.prog (Go.Ab.DD [(303,dP D_zx),(331,dP D_zjb)]):=ya yut.e <| ya ygu.e <| ye _
theorem dn:type_of% (And.intro @D_zx.eq_1 <| @D_zjb.eq_1):=by and_intros<;>intros<;>rfl
theorem den (a0:Int) (hp0:0<=a0) (hp1:a0<=99999):Den Tryz.prog 305 [.int .i64 a0] (.tup [.int .i64 ((zt a0).1),.int .i64 ((zt a0).2.1),.int .i64 ((zt a0).2.2)]):=by
 generalize hR:zt a0=r;unfold zt at hR;refine di Tryz.func305 Tryz.ntmps305 Tryz.results305 ?_;intro c hL hc hk;clear hL;simp only[pars,Nat.zero_add];iterate 2 refine rS ?_
 refine AWP.seq ?_;refine AWP.block ?_;generalize hz1:y5 (yow a0) (((a0).toNat)+1) (a0,2000)=z1 at hR;refine AWP.whileW (yow a0) (fun s1=>⟨[(0,.int .i64 s1.1),(5,.int .i64 s1.2),(6,.int .i64 1)],[]⟩) (fun s1=>0<=s1.1/\2000<=s1.2/\s1.2-2000+s1.1<=a0) (fun s1=>(s1.1).toNat) (((a0).toNat)+1) (a0,2000) [] hz1 m0 wt sm ?_;clear hz1;intro s1 k1 hW1 hm1 hz1;simp only[yow]at hz1;refine rS ?_;refine AWP.cond rfl (fun hb => ?_) (fun hb => ?_)
 ·simp only[hb,cond_true]at hz1
  iterate 2 refine rS ?_
  exact⟨_,[],by(have h9:=ykj s1.2;simp only[ob,ln,ol]at *;omega),by(have h9:=ykj s1.2;simp only[ob,ln,ol]at *;omega),hz1,sm⟩
 ·simp only[hb,cond_false]at hz1
  refine AWP.exit ?_;refine yb ?_;subst hz1;dsimp only at hR;refine AWP.seq ?_;refine AWP.block ?_;generalize hz2:y5 (ylw a0 (s1.1,s1.2)) (((s1.1).toNat)+1) (s1.1,1)=z2 at hR;refine AWP.whileW (ylw a0 (s1.1,s1.2)) (fun s2=>⟨[(0,.int .i64 s2.1),(5,.int .i64 s1.2),(6,.int .i64 s2.2)],[]⟩) (fun s2=>0<=s2.1/\s2.1<=99999/\1<=s2.2/\s2.2<=12/\s2.1<yps s1.2 s2.2) (fun s2=>(s2.1).toNat) (((s1.1).toNat)+1) (s1.1,1) [] hz2 m0 (by(have h9:=ykj s1.2;have h8:=y3r s1.2;simp only[ob,ln,ol]at *;omega)) sm ?_;clear hz2;intro s2 k2 hW2 hm2 hz2;simp only[ylw]at hz2;refine rS ?_;refine AWP.cond rfl (fun hb => ?_) (fun hb => ?_)
  ·simp only[hb,cond_true]at hz2
   iterate 2 refine rS ?_
   exact⟨_,[],by(have hbq:=of_decide_eq_true hb;have h9:=y8i s1.2 s2.2 s2.1 (by omega) (by omega) (by omega) hbq;have e1:=yyb (n:=s2.1-zx s1.2 s2.2) (by omega) (by omega);have e2:=yyb (n:=s2.2+1) (by omega) (by omega);simp only[e1,e2];omega),by(have hbq:=of_decide_eq_true hb;have h9:=y8i s1.2 s2.2 s2.1 (by omega) (by omega) (by omega) hbq;have e1:=yyb (n:=s2.1-zx s1.2 s2.2) (by omega) (by omega);have e2:=yyb (n:=s2.2+1) (by omega) (by omega);simp only[e1,e2];omega),hz2,sm⟩
  ·simp only[hb,cond_false]at hz2
   refine AWP.exit ?_;refine yb ?_;subst hz2;dsimp only at hR;refine rS ?_;refine AWP.ret ?_;subst hR;exact es
end N305
def D_zt : DF
 | [x0]=>some (.tup [.int .i64 ((zt (rdI x0)).1),.int .i64 ((zt (rdI x0)).2.1),.int .i64 ((zt (rdI x0)).2.2)],false,[wI .i64 x0,0<=(rdI x0),(rdI x0)<=99999])
 | _=>none
theorem yy6:OkD Tryz.prog 305 D_zt:=by unfold D_zt;exact dk N305.den
def zyd (a0:Int) (a1:Int):(List UInt8):=
 (zie [48] (if 0<IntKind.wrap .i64 (a1-((zl a0).length:Int))then IntKind.wrap .i64 (a1-((zl a0).length:Int))else 0))++(zl a0)
namespace N306
theorem DD:DOk Tryz.prog (Go.Ab.DD [(332,dP D_zie),(63,dP D_zl)]):=ya yp2.e <| ya yye.e <| ye _
theorem dn:type_of% (And.intro @D_zie.eq_1 <| @D_zl.eq_1):=by and_intros<;>intros<;>rfl
theorem ol:type_of% (@yrn):=@yrn
theorem gr {p:Prop} (h:p:=by(grind [yrn,yfc]);first|done|fail):p:=h
theorem den (a0:Int) (a1:Int) (hp0 : -1000000000000<=a0) (hp1:a0<=1000000000000) (hp2:0<=a1) (hp3:a1<=4):Den Tryz.prog 306 [.int .i64 a0,.int .i64 a1] (.str (zyd a0 a1)):=by
 generalize hR:zyd a0 a1=r;unfold zyd at hR;refine di Tryz.func306 Tryz.ntmps306 Tryz.results306 ?_;intro c hL hc hk;clear hL;simp only[pars,Nat.zero_add];have hl0:=yfc a0;iterate 3 refine rS ?_
 refine AWP.ret ?_;subst hR;exact es
end N306
def D_zyd : DF
 | [x0,x1]=>some (.str (zyd (rdI x0) (rdI x1)),false,[wI .i64 x0,wI .i64 x1,-1000000000000<=(rdI x0),(rdI x0)<=1000000000000,0<=(rdI x1),(rdI x1)<=4])
 | _=>none
theorem yf3:OkD Tryz.prog 306 D_zyd:=by unfold D_zyd;exact dk N306.den
end Go.Ab
