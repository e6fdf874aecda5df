/- A part of a proof: walks of functions and lemmas of our own. No conditions. -/
import Derived.Test.YthjljhdfdppkoaaGreatDoorNAl
import Derived.Test.YthjljhdfdppkoaaGreatDoorNAq
import Derived.Test.YthjljhdfdppkoaaGreatDoorNAr
import Derived.Test.YthjljhdfdppkoaaGreatDoorNAp
import Derived.Test.YthjljhdfdppkoaaGreatDoorNAn
import Derived.Test.YthjljhdfdppkoaaGreatDoorNAo
import Derived.Test.YthjljhdfdppkoaaGreatDoorNAm
set_option linter.unusedSectionVars false
set_option linter.unusedVariables false
set_option linter.unusedSimpArgs false
set_option maxHeartbeats 1000000
namespace Go.Ab
open Go Go.Proofs
def yuy (a0:(List UInt8)) (i1:Nat) (s1:Int):Except ((Int×Bool)) (Int):=
 (bif (decide (((a0.getD i1 0).toNat:Int)<48) || decide (57<((a0.getD i1 0).toNat:Int)))then .error (0,false)else .ok (IntKind.wrap .i64 ((IntKind.wrap .i64 (10 * s1))+(IntKind.wrap .i64 (IntKind.wrap .u8 (((a0.getD i1 0).toNat:Int)-48))))))
def zu (a0:(List UInt8)):(Int×Bool):=
 (match yh (yuy a0) (a0.length-0) 0 0 with|.error e=>e|.ok s1=>(s1,(ze (a0.length:Int) 1 18)))
namespace N56
theorem DD:DOk Tryz.prog (Go.Ab.DD [(63,dP D_ze)]):=ya yfc.e <| yf _
abbrev dn:=@D_ze.eq_1
abbrev ol:=@ze.eq_1
theorem den (a0:(List UInt8))  : Den Tryz.prog 56 [.str a0] (.tup [.int .i64 ((zu a0).1),.bool ((zu a0).2)]):=by
 generalize hR:zu a0=r;unfold zu at hR;refine di Tryz.func56 Tryz.ntmps56 Tryz.results56 ?_;intro c hL hc hk;obtain⟨hL0,_⟩:=hL;have hw0:a0.length<9223372036854775808:=Nat.lt_succ_of_le hL0;clear hL0;simp only[pars,Nat.zero_add];iterate 3 refine rS ?_
 refine AWP.block ?_;generalize hz1:yh (yuy a0) (a0.length-0) 0 0=z1 at hR;refine AWP.range (yuy a0) (fun i1 s1=>⟨[(0,.str a0),(4,.int .i64 s1),(5,.int .i64 (i1:Int))],[]⟩) (fun i1 s1=>True) (a0.length) 0 0 [] hz1 ot wt sm ?_;clear hz1;intro i1 s1 hi1 hW1 hz1;refine rS ?_;refine AWP.cond rfl (fun hb => ?_) (fun hb => ?_)
 ·have hlt1:i1<a0.length:=ot
  rw[yl hlt1]at hz1;simp only[yuy]at hz1;refine rS ?_;refine AWP.cond rfl (fun hb => ?_) (fun hb => ?_)
  ·simp only[hb,cond_true]at hz1
   refine rS ?_;refine AWP.ret ?_;subst hz1;dsimp only at hR;subst hR;exact es
  ·simp only[hb,cond_false]at hz1
   iterate 2 refine rS ?_
   exact⟨_,[],hlt1,wt,hz1,sm⟩
 ·obtain rfl:i1=a0.length:=ot
  rw[yk (Nat.le_refl _)]at hz1;subst hz1;dsimp only at hR;refine AWP.exit ?_;refine yd ?_;refine rS ?_;refine AWP.ret ?_;subst hR;exact es
end N56
def D_zu : DF
 | [x0]=>some (.tup [.int .i64 ((zu (rdS x0)).1),.bool ((zu (rdS x0)).2)],false,[wS x0])
 | _=>none
theorem yqab:OkD Tryz.prog 56 D_zu:=by unfold D_zu;exact dk N56.den
def zeg (a0:Int):Bool:=
 (ze a0 1 12)
namespace N118
theorem DD:DOk Tryz.prog (Go.Ab.DD [(63,dP D_ze)]):=ya yfc.e <| yf _
abbrev dn:=@D_ze.eq_1
abbrev ol:=@ze.eq_1
theorem den (a0:Int)  : Den Tryz.prog 118 [.int .i64 a0] (.bool (zeg a0)):=by
 generalize hR:zeg a0=r;unfold zeg at hR;refine di Tryz.func118 Tryz.ntmps118 Tryz.results118 ?_;intro c hL hc hk;clear hL;simp only[pars,Nat.zero_add];iterate 2 refine rS ?_
 refine AWP.ret ?_;subst hR;exact es
end N118
def D_zeg : DF
 | [x0]=>some (.bool (zeg (rdI x0)),false,[wI .i64 x0])
 | _=>none
theorem y46:OkD Tryz.prog 118 D_zeg:=by unfold D_zeg;exact dk N118.den
def y3l (a0:Int) (i1:Nat) (s1:Int):Except (Int) (Int):=
 .ok (IntKind.wrap .i64 (s1+(zqb (i1:Int))))
def zvc (a0:Int):Int:=
 (match yh (y3l a0) ((a0).toNat-2000) 2000 0 with|.error e=>e|.ok s1=>s1)
namespace N181
theorem DD:DOk Tryz.prog (Go.Ab.DD [(145,dP D_zqb)]):=ya yvx.e <| yf _
abbrev dn:=@D_zqb.eq_1
set_option maxHeartbeats 400000 in
set_option maxRecDepth 20000 in
theorem den (a0:Int) (hp0:2000<=a0) (hp1:a0<=2273):Den Tryz.prog 181 [.int .i64 a0] (.int .i64 (zvc a0)):=by
 generalize hR:zvc a0=r;unfold zvc at hR;refine di Tryz.func181 Tryz.ntmps181 Tryz.results181 ?_;intro c hL hc hk;clear hL;simp only[pars,Nat.zero_add];iterate 3 refine rS ?_
 refine AWP.block ?_;generalize hz1:yh (y3l a0) ((a0).toNat-2000) 2000 0=z1 at hR;refine AWP.range (y3l a0) (fun i1 s1=>⟨[(0,.int .i64 a0),(3,.int .i64 s1),(4,.int .i64 (i1:Int))],[]⟩) (fun i1 s1=>2000<=i1/\0<=s1/\s1<=366 * ((i1:Int)-2000)/\2000<=i1) ((a0).toNat) 2000 0 [] hz1 ot wt sm ?_;clear hz1;intro i1 s1 hi1 hW1 hz1;refine rS ?_;refine AWP.cond rfl (fun hb => ?_) (fun hb => ?_)
 ·have hlt1:i1<(a0).toNat:=ot
  rw[yl hlt1]at hz1;simp only[y3l]at hz1;iterate 2 refine rS ?_
  exact⟨_,[],hlt1,by(have h9:=yvj (i1:Int);simp only[ob,ln,ol]at *;omega),hz1,sm⟩
 ·obtain rfl:i1=(a0).toNat:=ot
  rw[yk (Nat.le_refl _)]at hz1;subst hz1;dsimp only at hR;refine AWP.exit ?_;refine yd ?_;refine rS ?_;refine AWP.ret ?_;subst hR;exact es
end N181
def D_zvc : DF
 | [x0]=>some (.int .i64 (zvc (rdI x0)),false,[wI .i64 x0,2000<=(rdI x0),(rdI x0)<=2273])
 | _=>none
theorem y45:OkD Tryz.prog 181 D_zvc:=by unfold D_zvc;exact dk N181.den
theorem yzg {ρ σ:Type} {b:Nat->σ->Except ρ σ} {I:Nat->σ->Prop} (hi:∀ i s,I i s->∃ t,b i s=.ok t/\I (i+1) t) :
  ∀ (k i:Nat) (s:σ),I i s->∃ t,yh b k i s=.ok t/\I (i+k) t
 | 0,i,s,h=>⟨s,rfl,h⟩
 | k+1,i,s,h=>by
  obtain⟨t,h1,h2⟩:=hi i s h;obtain⟨u,h3,h4⟩:=yzg hi k (i+1) t h2;refine⟨u,?_,by rw[show i+(k+1)=i+1+k by omega];exact h4⟩;simp only[yh,h1,h3]
theorem yzab (y:Int) (h1:2000<=y) (h2:y<=2273):0<=zvc y/\zvc y<=366 * 273:=by
 have hL:∀ k:Nat,k<=273->∃ t,yh (y3l y) k 2000 0=.ok t/\0<=t/\t<=366 * (k:Int):=by
  intro k hk
  obtain⟨t,e,_,h4⟩:=yzg (b:=y3l y) (I:=fun i t=>2000<=i/\(i<=2273->0<=t/\t<=366 * ((i:Int)-2000))) (fun i s hI=>by
   obtain⟨hI1,hI2⟩:=hI;refine⟨_,rfl,by omega,fun hle => ?_⟩;have h3:=hI2 (by omega);have h9:=yvj (i:Int);rw[IntKind.wrap_i64]
   omega) k 2000 0 ⟨by omega,fun _=>by omega⟩
  have:=h4 (by omega);exact⟨t,e,this.1,by omega⟩
 obtain⟨t,e,h3,h4⟩:=hL (y.toNat-2000) (by omega);unfold zvc;rw[e];simp only;exact⟨h3,by omega⟩
def y2r (a0:Int) (a1:Int) (a2:Int) (i1:Nat) (s1:Int):Except (Int) (Int):=
 .ok (IntKind.wrap .i64 (s1+(zdb a0 (i1:Int))))
def zce (a0:Int) (a1:Int) (a2:Int):Int:=
 (match yh (y2r a0 a1 a2) ((a1).toNat-1) 1 (IntKind.wrap .i64 ((IntKind.wrap .i64 ((zvc a0)+a2))-1))with|.error e=>e|.ok s1=>s1)
namespace N120
theorem DD:DOk Tryz.prog (Go.Ab.DD [(119,dP D_zdb),(181,dP D_zvc)]):=ya ydq.e <| ya y45.e <| yf _
abbrev dn:=cj @D_zdb.eq_1 <| @D_zvc.eq_1
set_option maxHeartbeats 400000 in
set_option maxRecDepth 20000 in
theorem den (a0:Int) (a1:Int) (a2:Int) (hp0:2000<=a0) (hp1:a0<=2273) (hp2:1<=a1) (hp3:a1<=12) (hp4:1<=a2) (hp5:a2<=31):Den Tryz.prog 120 [.int .i64 a0,.int .i64 a1,.int .i64 a2] (.int .i64 (zce a0 a1 a2)):=by
 generalize hR:zce a0 a1 a2=r;unfold zce at hR;refine di Tryz.func120 Tryz.ntmps120 Tryz.results120 ?_;intro c hL hc hk;clear hL;simp only[pars,Nat.zero_add];have hf9:=yzab a0 hp0 hp1;iterate 3 refine rS ?_
 refine AWP.block ?_;generalize hz1:yh (y2r a0 a1 a2) ((a1).toNat-1) 1 (IntKind.wrap .i64 ((IntKind.wrap .i64 ((zvc a0)+a2))-1))=z1 at hR;refine AWP.range (y2r a0 a1 a2) (fun i1 s1=>⟨[(0,.int .i64 a0),(1,.int .i64 a1),(7,.int .i64 s1),(8,.int .i64 (i1:Int))],[]⟩) (fun i1 s1=>1<=i1/\0<=s1/\s1<=30+366 * 273+31 * ((i1:Int)-1)/\1<=i1) ((a1).toNat) 1 (IntKind.wrap .i64 ((IntKind.wrap .i64 ((zvc a0)+a2))-1)) [] hz1 ot wt sm ?_;clear hz1;intro i1 s1 hi1 hW1 hz1;refine rS ?_;refine AWP.cond rfl (fun hb => ?_) (fun hb => ?_)
 ·have hlt1:i1<(a1).toNat:=ot
  rw[yl hlt1]at hz1;simp only[y2r]at hz1;iterate 2 refine rS ?_
  exact⟨_,[],hlt1,by(have h9:=yxf a0 (i1:Int) (by omega) (by simp only[ob]at *;omega);simp only[ob,ln,ol]at *;omega),hz1,sm⟩
 ·obtain rfl:i1=(a1).toNat:=ot
  rw[yk (Nat.le_refl _)]at hz1;subst hz1;dsimp only at hR;refine AWP.exit ?_;refine yd ?_;refine rS ?_;refine AWP.ret ?_;subst hR;exact es
end N120
def D_zce : DF
 | [x0,x1,x2]=>some (.int .i64 (zce (rdI x0) (rdI x1) (rdI x2)),false,[wI .i64 x0,wI .i64 x1,wI .i64 x2,2000<=(rdI x0),(rdI x0)<=2273,1<=(rdI x1),(rdI x1)<=12,1<=(rdI x2),(rdI x2)<=31])
 | _=>none
theorem yq5:OkD Tryz.prog 120 D_zce:=by unfold D_zce;exact dk N120.den
def zmd (a0:Int) (a1:Int) (a2:Int):(Int×Int):=
 (bif ((((!(zme a0)) || (!(zeg a1))) || (!(ze a2 1 (zdb a0 a1)))) || (!(zrb (zce a0 a1 a2))))then(0,2)else((zce a0 a1 a2),0))
namespace N57
theorem DD:DOk Tryz.prog (Go.Ab.DD [(117,dP D_zme),(118,dP D_zeg),(119,dP D_zdb),(120,dP D_zce),(42,dP D_zrb),(63,dP D_ze)]):=ya y2w.e <| ya y46.e <| ya ydq.e <| ya yq5.e <| ya yth.e <| ya yfc.e <| yf _
abbrev dn:=cj @D_zme.eq_1 <| cj @D_zeg.eq_1 <| cj @D_zdb.eq_1 <| cj @D_zce.eq_1 <| cj @D_zrb.eq_1 <| @D_ze.eq_1
abbrev ol:=@ze.eq_1
theorem o0 {p:Prop} (h:p:=by(first|(have h9:=yxf a0 a1;simp only[zme,zeg,ze,Bool.not_or,Bool.not_not,Bool.and_eq_true,decide_eq_true_eq];refine⟨?_,?_⟩<;>intro h<;>omega)|(have h9:=yxf a0 a1;have hb8:=hb;simp[zme,zeg,ze]at hb8;omega));first|done|fail):p:=h
theorem den (a0:Int) (a1:Int) (a2:Int)  : Den Tryz.prog 57 [.int .i64 a0,.int .i64 a1,.int .i64 a2] (.tup [.int .i64 ((zmd a0 a1 a2).1),.int .i64 ((zmd a0 a1 a2).2)]):=by
 generalize hR:zmd a0 a1 a2=r;unfold zmd at hR;refine di Tryz.func57 Tryz.ntmps57 Tryz.results57 ?_;intro c hL hc hk;clear hL;simp only[pars,Nat.zero_add];iterate 2 refine rS ?_
 refine AWP.cond rfl (fun hb => ?_) (fun hb => ?_)
 ·replace hR:=ct hR
  refine rS ?_;refine AWP.ret ?_;subst hR;exact es
 ·replace hR:=cf hR
  refine rS ?_;refine AWP.ret ?_;subst hR;exact es
end N57
def D_zmd : DF
 | [x0,x1,x2]=>some (.tup [.int .i64 ((zmd (rdI x0) (rdI x1) (rdI x2)).1),.int .i64 ((zmd (rdI x0) (rdI x1) (rdI x2)).2)],false,[wI .i64 x0,wI .i64 x1,wI .i64 x2])
 | _=>none
theorem ym4:OkD Tryz.prog 57 D_zmd:=by unfold D_zmd;exact dk N57.den
theorem yno (a:Int):(zhb a).length<=10000:=by
 unfold zhb zrb ze;by_cases h:0<=a/\a<=99999
 ·have hr:=yr8 a h.1 h.2
  have l1:=yrc (zw a).1;have l2:=ybq (zw a).2.1 (by omega) (by omega);have l3:=ybq (zw a).2.2 (by omega) (by omega);simp only[h.1,h.2,decide_true,Bool.and_self,Bool.not_true,cond_false,List.length_append,List.length_cons,List.length_nil];omega
 ·have:(decide (0<=a) && decide (a<=99999))=false:=by simpa using h
  simp[this]
def zhd (a0:(List UInt8)):(Int×Bool):=
 (bif (((zd a0 [45]).length:Int) != 3)then(0,false)else(bif (((((!((zu ((zd a0 [45]).getD 0 default)).2)) || (!((zu ((zd a0 [45]).getD 1 default)).2))) || (!((zu ((zd a0 [45]).getD 2 default)).2))) || (((zmd ((zu ((zd a0 [45]).getD 0 default)).1) ((zu ((zd a0 [45]).getD 1 default)).1) ((zu ((zd a0 [45]).getD 2 default)).1)).2) != 0)) || ((zhb ((zmd ((zu ((zd a0 [45]).getD 0 default)).1) ((zu ((zd a0 [45]).getD 1 default)).1) ((zu ((zd a0 [45]).getD 2 default)).1)).1)) != a0))then(0,false)else((zmd ((zu ((zd a0 [45]).getD 0 default)).1) ((zu ((zd a0 [45]).getD 1 default)).1) ((zu ((zd a0 [45]).getD 2 default)).1)).1,true)))
namespace N25
theorem DD:DOk Tryz.prog (Go.Ab.DD [(33,dP D_zhb),(55,dP D_zd),(56,dP D_zu),(57,dP D_zmd)]):=ya yqw.e <| ya ysl.e <| ya yqab.e <| ya ym4.e <| yf _
abbrev dn:=cj @D_zhb.eq_1 <| cj @D_zd.eq_1 <| cj @D_zu.eq_1 <| @D_zmd.eq_1
theorem gr {p:Prop} (h:p:=by(grind [yno]);first|done|fail):p:=h
theorem den (a0:(List UInt8)) (hb0:a0.length<1099511627776) (hp0:a0.length<=1048576):Den Tryz.prog 25 [.str a0] (.tup [.int .i64 ((zhd a0).1),.bool ((zhd a0).2)]):=by
 generalize hR:zhd a0=r;unfold zhd at hR;refine di Tryz.func25 Tryz.ntmps25 Tryz.results25 ?_;intro c hL hc hk;obtain⟨hL0,_⟩:=hL;have hw0:a0.length<9223372036854775808:=Nat.lt_succ_of_le hL0;clear hL0;simp only[pars,Nat.zero_add];have hs9:=y6q a0 [45] (by omega);iterate 3 refine rS ?_
 refine AWP.cond rfl (fun hb => ?_) (fun hb => ?_)
 ·replace hR:=ct hR
  refine rS ?_;refine AWP.ret ?_;subst hR;exact es
 ·replace hR:=cf hR
  iterate 5 refine rS ?_
  refine AWP.cond rfl (fun hb => ?_) (fun hb => ?_)
  ·replace hR:=ct hR
   refine rS ?_;refine AWP.ret ?_;subst hR;exact es
  ·replace hR:=cf hR
   refine rS ?_;refine AWP.ret ?_;subst hR;exact es
end N25
def D_zhd : DF
 | [x0]=>some (.tup [.int .i64 ((zhd (rdS x0)).1),.bool ((zhd (rdS x0)).2)],false,[wS x0,(rdS x0).length<1099511627776,(rdS x0).length<=1048576])
 | _=>none
theorem y72:OkD Tryz.prog 25 D_zhd:=by unfold D_zhd;exact dk N25.den
def u8D (k:Nat):UInt8:=UInt8.ofNat (48+k)
theorem y6i {k:Nat} (h:k<10):(u8D k).toNat=48+k:=yun k h
def pad2 (m:Nat):List UInt8:=[u8D (m / 10),u8D (m % 10)]
def pad4 (y:Nat):List UInt8:=[u8D (y / 1000),u8D (y / 100 % 10),u8D (y / 10 % 10),u8D (y % 10)]
theorem y9d {m:Nat} (h:m<100):y8d (pad2 m)/\digV 0 (pad2 m)=m:=by
 have h1:=y6i (k:=m / 10) (by omega);have h2:=y6i (k:=m % 10) (by omega);refine⟨fun b hb => ?_,?_⟩
 ·simp only[pad2,List.mem_cons,List.not_mem_nil,or_false]at hb
  rcases hb with rfl|rfl<;>omega
 ·unfold pad2
  rw[y8b,y8b,y9e,h1,h2];omega
theorem yyk {y:Nat} (h:y<10000):y8d (pad4 y)/\digV 0 (pad4 y)=y:=by
 have h1:=y6i (k:=y / 1000) (by omega);have h2:=y6i (k:=y / 100 % 10) (by omega);have h3:=y6i (k:=y / 10 % 10) (by omega);have h4:=y6i (k:=y % 10) (by omega);refine⟨fun b hb => ?_,?_⟩
 ·simp only[pad4,List.mem_cons,List.not_mem_nil,or_false]at hb
  rcases hb with rfl|rfl|rfl|rfl<;>omega
 ·unfold pad4
  rw[y8b,y8b,y8b,y8b,y9e,h1,h2,h3,h4];omega
theorem yp4 {y:Nat} (h1:1000<=y) (h2:y<10000):Lib.decDigits y=pad4 y:=by
 rw[ywb y (by omega),ywb (y / 10) (by omega),ywb (y / 10 / 10) (by omega),Lib.decDigits_one (by omega)];unfold pad4 u8D;rw[show y / 10 / 10 / 10=y / 1000 by omega,show y / 10 / 10 % 10=y / 100 % 10 by omega];rfl
theorem y1l {m:Nat} (h:m<100):zne (m:Int) 2=pad2 m:=by
 unfold zne;rw[yw6,yrg];by_cases h10:m<10
 ·rw[Lib.decDigits_one h10]
  unfold pad2 u8D;rw[show m / 10=0 by omega,show m % 10=m by omega];rfl
 ·rw[ywb m h10,Lib.decDigits_one (by omega)]
  rfl
def D10 (y m d:Nat):List UInt8:=pad4 y++45::(pad2 m++45::pad2 d)
theorem yde {a:Int} (h1:0<=a) (h2:a<=99999):∃ y m d:Nat,zw a=((y:Int),(m:Int),(d:Int))/\2000<=y/\y<=2273/\1<=m/\m<=12/\1<=d/\d<=31/\yyz a y m d/\zhb a=D10 y m d:=by
 obtain⟨y,m,d,e,hy,hd⟩:=ykcb a h1 h2;have hm:=yqx (l:=y1c y) hd.2.1 hd.2.2.1;obtain⟨q1,q2,q3,q4,q5,q6⟩:=hd;refine⟨y.toNat,m.toNat,d.toNat,?_,by omega,by omega,by omega,by omega,by omega,by omega,?_,?_⟩
 ·rw[e,show(y.toNat:Int)=y by omega,show(m.toNat:Int)=m by omega,show(d.toNat:Int)=d by omega]
 ·rw[show(y.toNat:Int)=y by omega,show(m.toNat:Int)=m by omega,show(d.toNat:Int)=d by omega]
  exact⟨q1,q2,q3,q4,q5,q6⟩
 ·unfold zhb zrb ze
  simp only[h1,h2,decide_true,Bool.and_self,Bool.not_true,cond_false,e];conv=>lhs;rw[show y=(y.toNat:Int)by omega,show m=(m.toNat:Int)by omega,show d=(d.toNat:Int)by omega]
  rw[yw6,yrg,yp4 (by omega) (by omega),y1l (by omega),y1l (by omega)];unfold D10;simp
theorem yo3 (x:Int):(decide (x<48) || decide (57<x)) = !(decide (48<=x) && decide (x<=57)):=by
 apply Bool.eq_iff_iff.2;simp only[Bool.or_eq_true,decide_eq_true_eq,Bool.not_eq_true',Bool.and_eq_false_iff,decide_eq_false_iff_not];omega
theorem ynh (l:List UInt8) (h:l.length<=18) (h0:l≠[]):zu l=if y8d l then(((digV 0 l:Nat):Int),true)else(0,false):=by
 unfold zu
 have hpow:(0+1) * 10 ^ (l.length-0)<=E18:=by
  have:10 ^ (l.length-0)<=10 ^ 18:=Nat.pow_le_pow_right (by decide) (by omega);have h6:(10:Nat) ^ 18=1000000000000000000:=by decide
  unfold E18;omega
 have hL:=yen l (yuy l) (fun i s=>by
  unfold yuy
  rw[yo3]) (l.length-0) 0 0 (by omega) hpow
 rw[List.drop_zero]at hL;rw[show(0:Int)=((0:Nat):Int)from rfl,hL]
 have hw:ze (l.length:Int) 1 18=true:=by
  have:=List.length_pos_iff.2 h0;unfold ze;simp;omega
 by_cases hA:y8d l
 ·rw[if_pos hA,if_pos hA];simp only[hw]
 ·rw[if_neg hA,if_neg hA];rfl
theorem yicb {y:Int} (h1:2000<=y) (h2:y<=2274):0<=ybD y/\ybD y<=100284:=by unfold ybD;omega
theorem y6ab:∀ (l:Bool) (m:Fin 13),mbD l m<=335:=by decide
theorem yncb {l:Bool} {m:Nat} (h:m<=12):mbD l m<=335:=y6ab l ⟨m,by omega⟩
theorem yus (y:Nat) (h1:2000<=y) (h2:y<=2273):zvc y=ybD y:=by
 have L1:=yzg (b:=y3l y) (I:=fun i t=>2000<=i/\(i<=2273->t=ybD i)) (fun i s hI=>by
  obtain⟨hI1,hI2⟩:=hI;refine⟨_,rfl,by omega,fun hle => ?_⟩;have hs:=hI2 (by omega);have hb:=yicb (y:=(i:Int)) (by omega) (by omega);have hn:=yz0 (i:Int) (by omega)
  have hyd:zqb (i:Int)=365+(bif y1c (i:Int)then 1 else 0):=by
   unfold zqb;rw[yyt (by omega) (by omega)];cases y1c (i:Int)<;>rfl
  have hy:=yvj (i:Int);rw[ydd (by omega) (by omega),hyd];push_cast
  omega) (y-2000) 2000 0 ⟨by omega,fun _=>by simp[ybD]⟩
 obtain⟨t,e1,_,q1⟩:=L1;have q1:=q1 (by omega);rw[show 2000+(y-2000)=y by omega]at q1;unfold zvc;rw[Int.toNat_natCast,e1];exact q1
theorem yv0 (y m d:Nat) (h1:2000<=y) (h2:y<=2273) (h3:1<=m) (h4:m<=12) (h5:1<=d) (h6:d<=31):zce y m d=ybD y+mbD (y1c y) m+d-1:=by
 have hyb:=yicb (y:=(y:Int)) (by omega) (by omega)
 have L2:=yzg (b:=y2r y m d) (I:=fun i s=>1<=i/\(i<=12->s=ybD y+d-1+mbD (y1c y) i)) (fun i s hI=>by
  obtain⟨hI1,hI2⟩:=hI;refine⟨_,rfl,by omega,fun hle => ?_⟩;have hs:=hI2 (by omega);have hm:=yrk (y:=(y:Int)) (m:=(i:Int)) (by omega) (by omega) (by omega) (by omega);have hsu:=y2z (l:=y1c y) (m:=(i:Int)) (by omega) (by omega);have hml:=yqx (l:=y1c y) (m:=(i:Int)) (by omega) (by omega);have hbl:=yncb (l:=y1c y) (m:=i) (by omega);rw[show((i:Int)+1).toNat=i+1 by omega,Int.toNat_natCast]at hsu;rw[Int.toNat_natCast]at hm hml;rw[ydd (by omega) (by omega),hm]
  omega) (m-1) 1 (ybD y+d-1) ⟨by omega,fun _=>by rw[ymx];simp⟩
 obtain⟨u,e2,_,q2⟩:=L2;have q2:=q2 (by omega);rw[show 1+(m-1)=m by omega]at q2;unfold zce;rw[yus y h1 h2,ydd (n:=ybD y+(d:Int)) (by omega) (by omega),ydd (by omega) (by omega),Int.toNat_natCast,e2];simp only;omega
def yfk (w:List UInt8) (r:Int×Bool):Prop:=
 (∃ a:Int,0<=a/\a<=99999/\w=zhb a/\r=(a,true))\/((∀ a:Int,0<=a->a<=99999->w≠zhb a)/\r=(0,false))
theorem yx8 {y m d y' m' d':Nat} (h1:y<10000) (h2:m<100) (h3:d<100) (h1':y'<10000) (h2':m'<100) (h3':d'<100) (h:D10 y m d=D10 y' m' d'):y=y'/\m=m'/\d=d':=by
 have t1:∀ y m d,(D10 y m d).take 4=pad4 y:=fun _ _ _=>rfl
 have t2:∀ y m d,((D10 y m d).take 7).drop 5=pad2 m:=fun _ _ _=>rfl
 have t3:∀ y m d,(D10 y m d).drop 8=pad2 d:=fun _ _ _=>rfl
 have e1:=congrArg (fun l=>digV 0 (List.take 4 l)) h;have e2:=congrArg (fun l=>digV 0 ((List.take 7 l).drop 5)) h;have e3:=congrArg (fun l=>digV 0 (List.drop 8 l)) h;simp only[t1,t2,t3]at e1 e2 e3;rw[(yyk h1).2,(yyk h1').2]at e1;rw[(y9d h2).2,(y9d h2').2]at e2;rw[(y9d h3).2,(y9d h3').2]at e3;exact⟨e1,e2,e3⟩
theorem yvq {a a':Int} (h1:0<=a) (h2:a<=99999) (h1':0<=a') (h2':a'<=99999) (h:zhb a=zhb a'):a=a':=by
 obtain⟨y,m,d,_,_,_,_,_,_,_,hd,e⟩:=yde h1 h2;obtain⟨y',m',d',_,_,_,_,_,_,_,hd',e'⟩:=yde h1' h2';rw[e,e']at h;obtain⟨rfl,rfl,rfl⟩:=yx8 (by omega) (by omega) (by omega) (by omega) (by omega) (by omega) h;have q:=hd.2.2.2.2.2;have q':=hd'.2.2.2.2.2;omega
theorem yfk.of {w:List UInt8} {r:Int×Bool} (h1:r=(0,false)\/∃ a:Int,0<=a/\a<=99999/\w=zhb a) (h2:∀ a:Int,0<=a->a<=99999->w=zhb a->r=(a,true)):yfk w r:=by
 by_cases h:∃ a:Int,0<=a/\a<=99999/\w=zhb a
 ·obtain⟨a,q1,q2,q3⟩:=h
  exact .inl ⟨a,q1,q2,q3,h2 a q1 q2 q3⟩
 ·refine .inr ⟨fun a q1 q2 q3=>h ⟨a,q1,q2,q3⟩,?_⟩
  rcases h1 with h1|h1
  ·exact h1
  ·exact absurd h1 h
theorem ys3 {a:Int} {y m d:Nat} (h1:0<=a) (h2:a<=99999) (hd:yyz a y m d):zmd y m d=(a,0):=by
 obtain⟨q1,q2,q3,q4,q5,q6⟩:=hd;have hle:=yqx (l:=y1c y) q2 q3;have hy:=y0u (y:=(y:Int)) (by omega);have hm:=yrk (y:=(y:Int)) (m:=(m:Int)) q1 hy q2 q3;have hn:=yv0 y m d (by omega) (by omega) (by omega) (by omega) (by omega) (by omega);rw[Int.toNat_natCast]at q6;have e:zce y m d=a:=by omega
 have hg:((((!(zme (y:Int))) || (!(zeg (m:Int)))) || (!(ze (d:Int) 1 (zdb y m)))) || (!(zrb (zce y m d))))=false:=by
  rw[e];simp only[zme,zeg,zrb,ze,Bool.or_eq_false_iff,Bool.not_eq_false',Bool.and_eq_true,decide_eq_true_eq];omega
 unfold zmd;rw[hg,cond_false,e]
theorem yy7 (y m d:Int) (h:(zmd y m d).2=0):0<=(zmd y m d).1/\(zmd y m d).1<=99999:=by
 unfold zmd at h ⊢
 cases hg:((((!(zme y)) || (!(zeg m))) || (!(ze d 1 (zdb y m)))) || (!(zrb (zce y m d))))with
 | true=>rw[hg]at h;simp at h
 | false=>
  rw[cond_false];simp only[Bool.or_eq_false_iff,Bool.not_eq_false',zrb,ze,Bool.and_eq_true,decide_eq_true_eq]at hg;exact hg.2
theorem yko (w:List UInt8) (hw:w.length<=1048576):yfk w (zhd w):=by
 refine yfk.of ?_ ?_
 ·unfold zhd
  cases hl:(((zd w [45]).length:Int) != 3)with
  | true=>left;rfl
  | false=>
   rw[cond_false];have hok:=yy7 ((zu ((zd w [45]).getD 0 default)).1) ((zu ((zd w [45]).getD 1 default)).1) ((zu ((zd w [45]).getD 2 default)).1);generalize zmd ((zu ((zd w [45]).getD 0 default)).1) ((zu ((zd w [45]).getD 1 default)).1) ((zu ((zd w [45]).getD 2 default)).1)=q at hok ⊢
   cases hc:(((((!((zu ((zd w [45]).getD 0 default)).2)) || (!((zu ((zd w [45]).getD 1 default)).2))) || (!((zu ((zd w [45]).getD 2 default)).2))) || (q.2 != 0)) || ((zhb q.1) != w))with
   | true=>left;rfl
   | false=>
    right
    rw[Bool.or_eq_false_iff,Bool.or_eq_false_iff]at hc;obtain⟨⟨_,hq⟩,ht⟩:=hc;have hq:q.2=0:=by simpa using hq
    have ht:zhb q.1=w:=by simpa using ht
    exact⟨q.1,(hok hq).1,(hok hq).2,ht.symm⟩
 ·rintro a h1 h2 rfl
  obtain⟨y,m,d,_,hy1,hy2,hm1,hm2,hd1,hd2,hD,e⟩:=yde h1 h2;have e45:∀ l:List UInt8,y8d l->(45:UInt8)∉l:=fun l h hm=>by have:=h 45 hm;simp at this
  obtain⟨p1,p2⟩:=yyk (y:=y) (by omega);obtain⟨p3,p4⟩:=y9d (m:=m) (by omega);obtain⟨p5,p6⟩:=y9d (m:=d) (by omega)
  have hs:zd (D10 y m d) [45]=[pad4 y,pad2 m,pad2 d]:=by
   unfold zd D10;show ybb 45 _=_;rw[yjb _ _ _ (e45 _ p1),yjb _ _ _ (e45 _ p3),yvd _ _ (e45 _ p5)]
  have hr:zhd (D10 y m d)=(bif zhb a != D10 y m d then(0,false)else(a,true)):=by
   unfold zhd;rw[hs];show(bif (((((!((zu (pad4 y)).2)) || (!((zu (pad2 m)).2))) || (!((zu (pad2 d)).2))) || (((zmd ((zu (pad4 y)).1) ((zu (pad2 m)).1) ((zu (pad2 d)).1)).2) != 0)) || ((zhb ((zmd ((zu (pad4 y)).1) ((zu (pad2 m)).1) ((zu (pad2 d)).1)).1)) != D10 y m d))then(0,false)else((zmd ((zu (pad4 y)).1) ((zu (pad2 m)).1) ((zu (pad2 d)).1)).1,true))=_;rw[ynh _ (by simp[pad4]) (by simp[pad4]),ynh _ (by simp[pad2]) (by simp[pad2]),ynh _ (by simp[pad2]) (by simp[pad2]),if_pos p1,if_pos p3,if_pos p5,p2,p4,p6];simp only;rw[ys3 h1 h2 hD];simp
  rw[e,hr,e];simp
def yn2 (a0:(List UInt8)) (i1:Nat) (s1:List (List UInt8)):Except ((List (List UInt8))) (List (List UInt8)):=
 (bif (((zd a0 [32]).getD i1 default) != [])then .ok (s1++[((zd a0 [32]).getD i1 default)])else .ok s1)
def zz (a0:(List UInt8)):(List (List UInt8)):=
 (match yh (yn2 a0) (((zd a0 [32]).length)-0) 0 ([]:List (List UInt8))with|.error e=>e|.ok s1=>s1)
namespace N125
theorem DD:DOk Tryz.prog (Go.Ab.DD [(55,dP D_zd)]):=ya ysl.e <| yf _
abbrev dn:=@D_zd.eq_1
theorem den (a0:(List UInt8)) (hb0:a0.length<1099511627776) (hp0:a0.length<=1048576):Den Tryz.prog 125 [.str a0] (ownL 9 1 eS (zz a0)):=by
 generalize hR:zz a0=r;unfold zz at hR;refine di Tryz.func125 Tryz.ntmps125 Tryz.results125 ?_;intro c hL hc hk;obtain⟨hL0,_⟩:=hL;have hw0:a0.length<9223372036854775808:=Nat.lt_succ_of_le hL0;clear hL0;simp only[pars,Nat.zero_add];have hs9:=y6q a0 [32] (by omega);iterate 3 refine rS ?_
 refine AWP.block ?_;generalize hz1:yh (yn2 a0) (((zd a0 [32]).length)-0) 0 ([]:List (List UInt8))=z1 at hR;refine AWP.range (yn2 a0) (fun i1 s1=>⟨[(3,.ref 0 1 0 s1.length),(8,.ref 1 1 0 ((zd a0 [32]).length)),(9,.int .i64 ((zd a0 [32]).length:Int)),(10,.int .i64 (i1:Int))],[.arr 9 1 s1.length (fun j=>eS (s1.getD j default)),.arr 9 1 (zd a0 [32]).length (fun j=>eS ((zd a0 [32]).getD j default))]⟩) (fun i1 s1=>s1.length<=([]:List (List UInt8)).length+1 * i1/\s1.length<=i1) (((zd a0 [32]).length)) 0 ([]:List (List UInt8)) [0,1] hz1 ot wt sm ?_;clear hz1;intro i1 s1 hi1 hW1 hz1;refine rS ?_;refine AWP.seq ?_;refine AWP.cond rfl (fun hb => ?_) (fun hb => ?_)
 ·have hlt1:i1<((zd a0 [32]).length):=ot
  rw[yl hlt1]at hz1;simp only[yn2]at hz1;iterate 2 refine rS ?_
  refine AWP.cond rfl (fun hb => ?_) (fun hb => ?_)
  ·simp only[hb,cond_true]at hz1
   iterate 2 refine rS ?_
   exact⟨_,[3,1],hlt1,wt,hz1,sm⟩
  ·simp only[hb,cond_false]at hz1
   refine rS ?_;exact⟨_,[0,1],hlt1,wt,hz1,sm⟩
 ·obtain rfl:i1=((zd a0 [32]).length):=ot
  rw[yk (Nat.le_refl _)]at hz1;subst hz1;dsimp only at hR;refine AWP.exit ?_;refine yd ?_;refine rS ?_;refine AWP.ret ?_;subst hR;exact es
end N125
def D_zz : DF
 | [x0]=>some (ownL 9 1 eS (zz (rdS x0)),false,[wS x0,(rdS x0).length<1099511627776,(rdS x0).length<=1048576])
 | _=>none
theorem ylab:OkD Tryz.prog 125 D_zz:=by unfold D_zz;exact dk N125.den
theorem y5d (l:List (List UInt8)) (b:Nat->List (List UInt8)->Except (List (List UInt8)) (List (List UInt8))) (hb:∀ i s,b i s=(bif (l.getD i default) != []then .ok (s++[l.getD i default])else .ok s)) :
  ∀ (k i:Nat) (s:List (List UInt8)),i+k=l.length->yh b k i s=.ok (s++(l.drop i).filter (· != []))
 | 0,i,s,h=>by
  rw[List.drop_eq_nil_of_le (by omega)];simp[yh]
 | k+1,i,s,h=>by
  have hlt:i<l.length:=by omega
  have hg:l.getD i default=l[i]:=by simp[List.getD,List.getElem?_eq_getElem hlt]
  simp only[yh,hb,hg];rw[List.drop_eq_getElem_cons hlt,List.filter_cons]
  cases hc:(l[i] != [])with
  | true=>
   simp only[cond_true];rw[y5d l b hb k (i+1) _ (by omega)];simp
  | false=>
   simp only[cond_false];rw[y5d l b hb k (i+1) _ (by omega)];simp
theorem y0cb (a:List UInt8):zz a=(ybb 32 a).filter (· != []):=by
 unfold zz;rw[y5d (zd a [32]) (yn2 a) (fun i s=>rfl) _ 0 [] (by omega)];rfl
theorem yfcb (a:List UInt8) (ha:a.length<=1048576):∀ x∈zz a,x.length<=1048576:=by
 intro x hx;rw[y0cb]at hx;have:=(ytd 32 a).2 x (List.mem_filter.1 hx).1;omega
theorem yii {l:List (List UInt8)} (h:∀ x∈l,x.length<=1048576) (i:Nat):(l.getD i default).length<=1048576:=by
 by_cases hi:i<l.length
 ·rw[List.getD_eq_getElem?_getD,List.getElem?_eq_getElem hi]
  exact h _ (List.getElem_mem hi)
 ·rw[List.getD_eq_getElem?_getD,List.getElem?_eq_none (by omega)]
  show([]:List UInt8).length<=_;simp
def zj (a0:(List UInt8)):(Int×Bool):=yqc a0
theorem ybbb (a0:(List UInt8)) (hp0:a0.length<=1048576):Den Tryz.prog 24 [.str a0] (.tup [.int .i64 ((zj a0).1),.bool ((zj a0).2)]):=by
 exact yav a0 hp0
def D_zj : DF
 | [x0]=>some (.tup [.int .i64 ((zj (rdS x0)).1),.bool ((zj (rdS x0)).2)],false,[wS x0,(rdS x0).length<=1048576])
 | _=>none
theorem yhj:OkD Tryz.prog 24 D_zj:=by
 intro xs r z ob h ho;unfold D_zj at h;split at h
 ·simp only[Option.some.injEq,Prod.mk.injEq]at h
  obtain⟨rfl,rfl,rfl⟩:=h;obtain⟨h0,hp0,_⟩:=ho;exact Den.sim (ybbb _ hp0) (yp (yfb h0).1 <| trivial) (yt (yfb h0).2 <| rfl) rfl
 ·cases h
def yfu (a0:(List UInt8)) (s1:Int×Int):Except (Sum ((Character×Bool)) (Int×Int)) (Int×Int):=
 (bif decide (s1.1<=8)then(bif ((zuc s1.1) == ((zb ((zf a0 [43,76,70,108]).1) [40]).1))then .ok (IntKind.wrap .i64 (s1.1+1),s1.1)else .ok (IntKind.wrap .i64 (s1.1+1),s1.2))else .error (.inr (s1.1,s1.2)))
def yuu (a0:(List UInt8)) (s1:Int×Int) (i2:Nat) (s2:List Int):Except ((Character×Bool)) (List Int):=
 (bif (!((zj ((zd ((zf ((zb ((zf a0 [43,76,70,108]).1) [40]).2.1) [41]).1) [43]).getD i2 default)).2))then .error ({ Kind:=0,Group:=[],Letter:=[],Colors:=[],Period:=0:Character },false)else .ok (s2++([(zj ((zd ((zf ((zb ((zf a0 [43,76,70,108]).1) [40]).2.1) [41]).1) [43]).getD i2 default)).1]:List Int)))
def yrl (a0:(List UInt8)) (s3:Int×Int):Except (Sum ((Character×Bool)) (Int×Int)) (Int×Int):=
 (bif decide (s3.1<=8)then(bif ((zuc s3.1) == ((zb ((zf a0 [43,76,70,108]).1) [40]).1))then .ok (IntKind.wrap .i64 (s3.1+1),s3.1)else .ok (IntKind.wrap .i64 (s3.1+1),s3.2))else .error (.inr (s3.1,s3.2)))
def yhu (a0:(List UInt8)) (s3:Int×Int) (i4:Nat) (s4:List Int):Except ((Character×Bool)) (List Int):=
 (bif (!((zj ((zd ((zf ((zb ((zf a0 [43,76,70,108]).1) [40]).2.1) [41]).1) [43]).getD i4 default)).2))then .error ({ Kind:=0,Group:=[],Letter:=[],Colors:=[],Period:=0:Character },false)else .ok (s4++([(zj ((zd ((zf ((zb ((zf a0 [43,76,70,108]).1) [40]).2.1) [41]).1) [43]).getD i4 default)).1]:List Int)))
def zl (a0:(List UInt8)):(Character×Bool):=
 (bif (zf a0 [43,76,70,108]).2 then(match yeb (yfu a0) (((9-(1:Int)).toNat)+1) (1,0)with|.error (.inl e)=>e|.error (.inr s1)=>(bif (!((zb ((zf a0 [43,76,70,108]).1) [40]).2.2))then({ Kind:=s1.2,Group:=[],Letter:=[76],Colors:=[],Period:=0:Character },true)else(bif (s1.2 == 8)then({ Kind:=s1.2,Group:=[],Letter:=(zf ((zb ((zf a0 [43,76,70,108]).1) [40]).2.1) [41]).1,Colors:=[],Period:=0:Character },((zf ((zb ((zf a0 [43,76,70,108]).1) [40]).2.1) [41]).2 && (!((zf a0 [43,76,70,108]).2))))else(match yh (yuu a0 s1) (((zd ((zf ((zb ((zf a0 [43,76,70,108]).1) [40]).2.1) [41]).1) [43]).length)-0) 0 ([]:List Int)with|.error e=>e|.ok s2=>({ Kind:=s1.2,Group:=s2,Letter:=[76],Colors:=[],Period:=0:Character },(zf ((zb ((zf a0 [43,76,70,108]).1) [40]).2.1) [41]).2))))|.ok _=>default)else(match yeb (yrl a0) (((9-(1:Int)).toNat)+1) (1,0)with|.error (.inl e)=>e|.error (.inr s3)=>(bif (!((zb ((zf a0 [43,76,70,108]).1) [40]).2.2))then({ Kind:=s3.2,Group:=[],Letter:=[],Colors:=[],Period:=0:Character },true)else(bif (s3.2 == 8)then({ Kind:=s3.2,Group:=[],Letter:=(zf ((zb ((zf a0 [43,76,70,108]).1) [40]).2.1) [41]).1,Colors:=[],Period:=0:Character },((zf ((zb ((zf a0 [43,76,70,108]).1) [40]).2.1) [41]).2 && (!((zf a0 [43,76,70,108]).2))))else(match yh (yhu a0 s3) (((zd ((zf ((zb ((zf a0 [43,76,70,108]).1) [40]).2.1) [41]).1) [43]).length)-0) 0 ([]:List Int)with|.error e=>e|.ok s4=>({ Kind:=s3.2,Group:=s4,Letter:=[],Colors:=[],Period:=0:Character },(zf ((zb ((zf a0 [43,76,70,108]).1) [40]).2.1) [41]).2))))|.ok _=>default))
namespace N128
theorem DD:DOk Tryz.prog (Go.Ab.DD [(122,dP D_zb),(188,dP D_zf),(189,dP D_zuc),(24,dP D_zj),(55,dP D_zd)]):=ya yql.e <| ya yxab.e <| ya y0v.e <| ya yhj.e <| ya ysl.e <| yf _
abbrev dn:=cj @D_zb.eq_1 <| cj @D_zf.eq_1 <| cj @D_zuc.eq_1 <| cj @D_zj.eq_1 <| @D_zd.eq_1
theorem gr {p:Prop} (h:p:=by(grind [y3f,ysr]);first|done|fail):p:=h
theorem o0 {p:Prop} (h:p:=by(first|(and_intros<;>(first|omega|rfl|exact yii c4 _)));first|done|fail):p:=h
theorem o2 {p:Prop} (h:p:=by(first|(and_intros<;>first|omega|(rw[IntKind.wrap_i64];omega)|(simp;(first|done|fail))|(intro i hi;exact ygi _ _ i hi)|(intro i hi;rw[ygi _ _ i hi];exact y6 _)|decide));first|done|fail):p:=h
set_option maxHeartbeats 2000000 in
set_option maxRecDepth 20000 in
theorem den (a0:(List UInt8)) (hb0:a0.length<1099511627776) (hp0:a0.length<=1048576):Den Tryz.prog 128 [.str a0] (.tup [.agg (y6b ((zl a0).1)),.bool ((zl a0).2)]):=by
 generalize hR:zl a0=r;unfold zl at hR;refine di Tryz.func128 Tryz.ntmps128 Tryz.results128 ?_;intro c hL hc hk;obtain⟨hL0,_⟩:=hL;have hw0:a0.length<9223372036854775808:=Nat.lt_succ_of_le hL0;clear hL0;simp only[pars,Nat.zero_add];have c1:=ysr a0 [43,76,70,108];have c2:=y3f (zf a0 [43,76,70,108]).1 [40];have c3:=ysr (zb (zf a0 [43,76,70,108]).1 [40]).2.1 [41];have c4:=(y6q (zf (zb (zf a0 [43,76,70,108]).1 [40]).2.1 [41]).1 [43] (by omega)).2;have c5:=(y6q (zf (zb (zf a0 [43,76,70,108]).1 [40]).2.1 [41]).1 [43] (by omega)).1;iterate 4 refine rS ?_
 refine AWP.cond rfl (fun hb => ?_) (fun hb => ?_)
 ·replace hR:=ct hR
  iterate 3 refine rS ?_
  refine AWP.block ?_;generalize hz1:yeb (yfu a0) (((9-(1:Int)).toNat)+1) (1,0)=z1 at hR;refine AWP.whileW (yfu a0) (fun s1=>⟨[(2,.ptr 0 0),(4,.ptr 1 0),(6,.bool ((zf a0 [43,76,70,108]).2)),(7,.str ((zb ((zf a0 [43,76,70,108]).1) [40]).1)),(8,.str ((zb ((zf a0 [43,76,70,108]).1) [40]).2.1)),(9,.bool ((zb ((zf a0 [43,76,70,108]).1) [40]).2.2)),(10,.int .i64 s1.1)],[.box [.int .i64 0,.nils,.str [],.str [],.int .i64 0],.box [.int .i64 s1.2,.nils,.str [76],.str [],.int .i64 0]]⟩) (fun s1=>1<=s1.1/\s1.1<=9) (fun s1=>(9-s1.1).toNat) (((9-(1:Int)).toNat)+1) (1,0) [0,1] hz1 m0 wt sm ?_;clear hz1;intro s1 k1 hW1 hm1 hz1;simp only[yfu]at hz1;refine rS ?_;refine AWP.cond rfl (fun hb => ?_) (fun hb => ?_)
  ·simp only[hb,cond_true]at hz1
   refine rS ?_;refine AWP.cond rfl (fun hb => ?_) (fun hb => ?_)
   ·simp only[hb,cond_true]at hz1
    iterate 2 refine rS ?_
    exact⟨_,[0,1],ms,wt,hz1,sm⟩
   ·simp only[hb,cond_false]at hz1
    refine rS ?_;exact⟨_,[0,1],ms,wt,hz1,sm⟩
  ·simp only[hb,cond_false]at hz1
   refine AWP.exit ?_;refine yd ?_;subst hz1;dsimp only at hR;refine rS ?_;refine AWP.cond rfl (fun hb => ?_) (fun hb => ?_)
   ·replace hR:=ct hR
    refine rS ?_;refine AWP.ret ?_;subst hR;exact es
   ·replace hR:=cf hR
    iterate 2 refine rS ?_
    refine AWP.cond rfl (fun hb => ?_) (fun hb => ?_)
    ·replace hR:=ct hR
     iterate 2 refine rS ?_
     refine AWP.ret ?_;subst hR;exact es
    ·replace hR:=cf hR
     refine rS ?_;refine AWP.block ?_;refine AWP.nilB 1 1 2 1 (fun _=>[]) rfl rfl ?_;try simp only[ea,absV,ybc,cput,gv,sv,dn,reduceCtorEq,reduceIte,Nat.reduceBEq,Nat.reduceAdd,Nat.reduceEqDiff,Nat.reduceLT,Nat.reduceLeDiff,Nat.reduceMul,Nat.reduceSub,BEq.rfl,beq_self_eq_true,Int.reduceToNat];generalize hz2:yh (yuu a0 (s1.1,s1.2)) (((zd ((zf ((zb ((zf a0 [43,76,70,108]).1) [40]).2.1) [41]).1) [43]).length)-0) 0 ([]:List Int)=z2 at hR;refine AWP.range (yuu a0 (s1.1,s1.2)) (fun i2 s2=>⟨[(2,.ptr 0 0),(4,.ptr 1 0),(12,.bool ((zf ((zb ((zf a0 [43,76,70,108]).1) [40]).2.1) [41]).2)),(61,.ref 3 1 0 ((zd ((zf ((zb ((zf a0 [43,76,70,108]).1) [40]).2.1) [41]).1) [43]).length)),(62,.int .i64 ((zd ((zf ((zb ((zf a0 [43,76,70,108]).1) [40]).2.1) [41]).1) [43]).length:Int)),(63,.int .i64 (i2:Int))],[.box [.int .i64 0,.nils,.str [],.str [],.int .i64 0],.box [.int .i64 s1.2,.ref 2 1 0 s2.length,.str [76],.str [],.int .i64 0],.arr 2 1 s2.length (fun j=>yx (s2.getD j default)),.arr 9 1 (zd ((zf ((zb ((zf a0 [43,76,70,108]).1) [40]).2.1) [41]).1) [43]).length (fun j=>eS ((zd ((zf ((zb ((zf a0 [43,76,70,108]).1) [40]).2.1) [41]).1) [43]).getD j default))]⟩) (fun i2 s2=>s2.length<=i2) (((zd ((zf ((zb ((zf a0 [43,76,70,108]).1) [40]).2.1) [41]).1) [43]).length)) 0 ([]:List Int) [0,1,3,2] hz2 ot wt sm ?_;clear hz2;intro i2 s2 hi2 hW2 hz2;refine rS ?_;refine AWP.seq ?_;refine AWP.cond rfl (fun hb => ?_) (fun hb => ?_)
     ·have hlt2:i2<((zd ((zf ((zb ((zf a0 [43,76,70,108]).1) [40]).2.1) [41]).1) [43]).length):=ot
      rw[yl hlt2]at hz2;simp only[yuu]at hz2;iterate 3 refine rS ?_
      refine AWP.cond rfl (fun hb => ?_) (fun hb => ?_)
      ·simp only[hb,cond_true]at hz2
       refine rS ?_;refine AWP.ret ?_;subst hz2;dsimp only at hR;subst hR;exact es
      ·simp only[hb,cond_false]at hz2
       iterate 2 refine rS ?_
       exact⟨_,[0,1,5,3],hlt2,wt,hz2,sm⟩
     ·obtain rfl:i2=((zd ((zf ((zb ((zf a0 [43,76,70,108]).1) [40]).2.1) [41]).1) [43]).length):=ot
      rw[yk (Nat.le_refl _)]at hz2;subst hz2;dsimp only at hR;refine AWP.exit ?_;refine yd ?_;refine rS ?_;refine AWP.ret ?_;subst hR;exact es
 ·replace hR:=cf hR
  iterate 2 refine rS ?_
  refine AWP.block ?_;generalize hz3:yeb (yrl a0) (((9-(1:Int)).toNat)+1) (1,0)=z3 at hR;refine AWP.whileW (yrl a0) (fun s3=>⟨[(2,.ptr 0 0),(4,.ptr 1 0),(6,.bool ((zf a0 [43,76,70,108]).2)),(7,.str ((zb ((zf a0 [43,76,70,108]).1) [40]).1)),(8,.str ((zb ((zf a0 [43,76,70,108]).1) [40]).2.1)),(9,.bool ((zb ((zf a0 [43,76,70,108]).1) [40]).2.2)),(10,.int .i64 s3.1)],[.box [.int .i64 0,.nils,.str [],.str [],.int .i64 0],.box [.int .i64 s3.2,.nils,.str [],.str [],.int .i64 0]]⟩) (fun s3=>1<=s3.1/\s3.1<=9) (fun s3=>(9-s3.1).toNat) (((9-(1:Int)).toNat)+1) (1,0) [0,1] hz3 m0 wt sm ?_;clear hz3;intro s3 k3 hW3 hm3 hz3;simp only[yrl]at hz3;refine rS ?_;refine AWP.cond rfl (fun hb => ?_) (fun hb => ?_)
  ·simp only[hb,cond_true]at hz3
   refine rS ?_;refine AWP.cond rfl (fun hb => ?_) (fun hb => ?_)
   ·simp only[hb,cond_true]at hz3
    iterate 2 refine rS ?_
    exact⟨_,[0,1],ms,wt,hz3,sm⟩
   ·simp only[hb,cond_false]at hz3
    refine rS ?_;exact⟨_,[0,1],ms,wt,hz3,sm⟩
  ·simp only[hb,cond_false]at hz3
   refine AWP.exit ?_;refine yd ?_;subst hz3;dsimp only at hR;refine rS ?_;refine AWP.cond rfl (fun hb => ?_) (fun hb => ?_)
   ·replace hR:=ct hR
    refine rS ?_;refine AWP.ret ?_;subst hR;exact es
   ·replace hR:=cf hR
    iterate 2 refine rS ?_
    refine AWP.cond rfl (fun hb => ?_) (fun hb => ?_)
    ·replace hR:=ct hR
     iterate 2 refine rS ?_
     refine AWP.ret ?_;subst hR;exact es
    ·replace hR:=cf hR
     refine rS ?_;refine AWP.block ?_;refine AWP.nilB 1 1 2 1 (fun _=>[]) rfl rfl ?_;try simp only[ea,absV,ybc,cput,gv,sv,dn,reduceCtorEq,reduceIte,Nat.reduceBEq,Nat.reduceAdd,Nat.reduceEqDiff,Nat.reduceLT,Nat.reduceLeDiff,Nat.reduceMul,Nat.reduceSub,BEq.rfl,beq_self_eq_true,Int.reduceToNat];generalize hz4:yh (yhu a0 (s3.1,s3.2)) (((zd ((zf ((zb ((zf a0 [43,76,70,108]).1) [40]).2.1) [41]).1) [43]).length)-0) 0 ([]:List Int)=z4 at hR;refine AWP.range (yhu a0 (s3.1,s3.2)) (fun i4 s4=>⟨[(2,.ptr 0 0),(4,.ptr 1 0),(12,.bool ((zf ((zb ((zf a0 [43,76,70,108]).1) [40]).2.1) [41]).2)),(61,.ref 3 1 0 ((zd ((zf ((zb ((zf a0 [43,76,70,108]).1) [40]).2.1) [41]).1) [43]).length)),(62,.int .i64 ((zd ((zf ((zb ((zf a0 [43,76,70,108]).1) [40]).2.1) [41]).1) [43]).length:Int)),(63,.int .i64 (i4:Int))],[.box [.int .i64 0,.nils,.str [],.str [],.int .i64 0],.box [.int .i64 s3.2,.ref 2 1 0 s4.length,.str [],.str [],.int .i64 0],.arr 2 1 s4.length (fun j=>yx (s4.getD j default)),.arr 9 1 (zd ((zf ((zb ((zf a0 [43,76,70,108]).1) [40]).2.1) [41]).1) [43]).length (fun j=>eS ((zd ((zf ((zb ((zf a0 [43,76,70,108]).1) [40]).2.1) [41]).1) [43]).getD j default))]⟩) (fun i4 s4=>s4.length<=i4) (((zd ((zf ((zb ((zf a0 [43,76,70,108]).1) [40]).2.1) [41]).1) [43]).length)) 0 ([]:List Int) [0,1,3,2] hz4 ot wt sm ?_;clear hz4;intro i4 s4 hi4 hW4 hz4;refine rS ?_;refine AWP.seq ?_;refine AWP.cond rfl (fun hb => ?_) (fun hb => ?_)
     ·have hlt4:i4<((zd ((zf ((zb ((zf a0 [43,76,70,108]).1) [40]).2.1) [41]).1) [43]).length):=ot
      rw[yl hlt4]at hz4;simp only[yhu]at hz4;iterate 3 refine rS ?_
      refine AWP.cond rfl (fun hb => ?_) (fun hb => ?_)
      ·simp only[hb,cond_true]at hz4
       refine rS ?_;refine AWP.ret ?_;subst hz4;dsimp only at hR;subst hR;exact es
      ·simp only[hb,cond_false]at hz4
       iterate 2 refine rS ?_
       exact⟨_,[0,1,5,3],hlt4,wt,hz4,sm⟩
     ·obtain rfl:i4=((zd ((zf ((zb ((zf a0 [43,76,70,108]).1) [40]).2.1) [41]).1) [43]).length):=ot
      rw[yk (Nat.le_refl _)]at hz4;subst hz4;dsimp only at hR;refine AWP.exit ?_;refine yd ?_;refine rS ?_;refine AWP.ret ?_;subst hR;exact es
end N128
def D_zl : DF
 | [x0]=>some (.tup [.agg (y6b ((zl (rdS x0)).1)),.bool ((zl (rdS x0)).2)],false,[wS x0,(rdS x0).length<1099511627776,(rdS x0).length<=1048576])
 | _=>none
theorem yhab:OkD Tryz.prog 128 D_zl:=by unfold D_zl;exact dk N128.den
def zze (a0:(List UInt8)):(Int×Bool):=
 (bif (!((zb a0 [46]).2.2))then(IntKind.wrap .i64 ((IntKind.wrap .i64 (10 * ((zj ((zb a0 [46]).1)).1)))+((zj [48]).1)),(((((zj ((zb a0 [46]).1)).2 && (zj [48]).2) && (ze ((zj ((zb a0 [46]).1)).1) 0 1200)) && (ze ((zj [48]).1) 0 9)) && ((zye (IntKind.wrap .i64 ((IntKind.wrap .i64 (10 * ((zj ((zb a0 [46]).1)).1)))+((zj [48]).1)))) == a0)))else(IntKind.wrap .i64 ((IntKind.wrap .i64 (10 * ((zj ((zb a0 [46]).1)).1)))+((zj ((zb a0 [46]).2.1)).1)),(((((zj ((zb a0 [46]).1)).2 && (zj ((zb a0 [46]).2.1)).2) && (ze ((zj ((zb a0 [46]).1)).1) 0 1200)) && (ze ((zj ((zb a0 [46]).2.1)).1) 0 9)) && ((zye (IntKind.wrap .i64 ((IntKind.wrap .i64 (10 * ((zj ((zb a0 [46]).1)).1)))+((zj ((zb a0 [46]).2.1)).1)))) == a0))))
namespace N129
theorem DD:DOk Tryz.prog (Go.Ab.DD [(122,dP D_zb),(142,dP D_zye),(24,dP D_zj),(63,dP D_ze)]):=ya yql.e <| ya y6x.e <| ya yhj.e <| ya yfc.e <| yf _
abbrev dn:=cj @D_zb.eq_1 <| cj @D_zye.eq_1 <| cj @D_zj.eq_1 <| @D_ze.eq_1
abbrev ol:=@ze.eq_1
theorem gr {p:Prop} (h:p:=by(grind [y3f]);first|done|fail):p:=h
set_option maxHeartbeats 400000 in
set_option maxRecDepth 20000 in
theorem den (a0:(List UInt8)) (hb0:a0.length<1099511627776) (hp0:a0.length<=1048576):Den Tryz.prog 129 [.str a0] (.tup [.int .i64 ((zze a0).1),.bool ((zze a0).2)]):=by
 generalize hR:zze a0=r;unfold zze at hR;refine di Tryz.func129 Tryz.ntmps129 Tryz.results129 ?_;intro c hL hc hk;obtain⟨hL0,_⟩:=hL;have hw0:a0.length<9223372036854775808:=Nat.lt_succ_of_le hL0;clear hL0;simp only[pars,Nat.zero_add];iterate 3 refine rS ?_
 refine AWP.cond rfl (fun hb => ?_) (fun hb => ?_)
 ·replace hR:=ct hR
  iterate 5 refine rS ?_
  refine AWP.ret ?_;subst hR;exact es
 ·replace hR:=cf hR
  iterate 4 refine rS ?_
  refine AWP.ret ?_;subst hR;exact es
end N129
def D_zze : DF
 | [x0]=>some (.tup [.int .i64 ((zze (rdS x0)).1),.bool ((zze (rdS x0)).2)],false,[wS x0,(rdS x0).length<1099511627776,(rdS x0).length<=1048576])
 | _=>none
theorem ym3:OkD Tryz.prog 129 D_zze:=by unfold D_zze;exact dk N129.den
def yqv (a0:(List UInt8)) (s1:Int):Except (Sum ((Int×Bool)) (Int)) (Int):=
 (bif decide (s1<=9)then(bif ((zae s1) == a0)then .error (.inl (s1,true))else .ok (IntKind.wrap .i64 (s1+1)))else .error (.inr s1))
def znd (a0:(List UInt8)):(Int×Bool):=
 (match yeb (yqv a0) (((10-(0:Int)).toNat)+1) 0 with|.error (.inl e)=>e|.error (.inr s1)=>(0,false)|.ok _=>default)
namespace N126
theorem DD:DOk Tryz.prog (Go.Ab.DD [(124,dP D_zae)]):=ya ydo.e <| yf _
abbrev dn:=@D_zae.eq_1
theorem den (a0:(List UInt8))  : Den Tryz.prog 126 [.str a0] (.tup [.int .i64 ((znd a0).1),.bool ((znd a0).2)]):=by
 generalize hR:znd a0=r;unfold znd at hR;refine di Tryz.func126 Tryz.ntmps126 Tryz.results126 ?_;intro c hL hc hk;obtain⟨hL0,_⟩:=hL;have hw0:a0.length<9223372036854775808:=Nat.lt_succ_of_le hL0;clear hL0;simp only[pars,Nat.zero_add];iterate 2 refine rS ?_
 refine AWP.block ?_;generalize hz1:yeb (yqv a0) (((10-(0:Int)).toNat)+1) 0=z1 at hR;refine AWP.whileW (yqv a0) (fun s1=>⟨[(0,.str a0),(4,.int .i64 s1)],[]⟩) (fun s1=>0<=s1/\s1<=10) (fun s1=>(10-s1).toNat) (((10-(0:Int)).toNat)+1) 0 [] hz1 m0 wt sm ?_;clear hz1;intro s1 k1 hW1 hm1 hz1;simp only[yqv]at hz1;refine rS ?_;refine AWP.cond rfl (fun hb => ?_) (fun hb => ?_)
 ·simp only[hb,cond_true]at hz1
  refine rS ?_;refine AWP.cond rfl (fun hb => ?_) (fun hb => ?_)
  ·simp only[hb,cond_true]at hz1
   refine rS ?_;refine AWP.ret ?_;subst hz1;dsimp only at hR;subst hR;exact es
  ·simp only[hb,cond_false]at hz1
   refine rS ?_;exact⟨_,[],ms,wt,hz1,sm⟩
 ·simp only[hb,cond_false]at hz1
  refine AWP.exit ?_;refine yd ?_;subst hz1;dsimp only at hR;refine rS ?_;refine AWP.ret ?_;subst hR;exact es
end N126
def D_znd : DF
 | [x0]=>some (.tup [.int .i64 ((znd (rdS x0)).1),.bool ((znd (rdS x0)).2)],false,[wS x0])
 | _=>none
theorem yb7:OkD Tryz.prog 126 D_znd:=by unfold D_znd;exact dk N126.den
def zaf (a0:(List UInt8)):(Point×Bool):=
 (bif (((!((zj ((zb a0 [44]).1)).2)) || (!((zj ((zb a0 [44]).2.1)).2))) || (!(zyd ({ X:=(zj ((zb a0 [44]).1)).1,Y:=(zj ((zb a0 [44]).2.1)).1:Point }))))then({ X:=0,Y:=0:Point },false)else({ X:=(zj ((zb a0 [44]).1)).1,Y:=(zj ((zb a0 [44]).2.1)).1:Point },true))
namespace N59
theorem DD:DOk Tryz.prog (Go.Ab.DD [(122,dP D_zb),(123,dP D_zyd),(24,dP D_zj)]):=ya yql.e <| ya yep.e <| ya yhj.e <| yf _
abbrev dn:=cj @D_zb.eq_1 <| cj @D_zyd.eq_1 <| @D_zj.eq_1
theorem gr {p:Prop} (h:p:=by(grind [y3f]);first|done|fail):p:=h
set_option maxHeartbeats 1000000 in
set_option maxRecDepth 20000 in
theorem den (a0:(List UInt8)) (hb0:a0.length<1099511627776) (hp0:a0.length<=1048576):Den Tryz.prog 59 [.str a0] (.tup [.agg (ypf ((zaf a0).1)),.bool ((zaf a0).2)]):=by
 generalize hR:zaf a0=r;unfold zaf at hR;refine di Tryz.func59 Tryz.ntmps59 Tryz.results59 ?_;intro c hL hc hk;obtain⟨hL0,_⟩:=hL;have hw0:a0.length<9223372036854775808:=Nat.lt_succ_of_le hL0;clear hL0;simp only[pars,Nat.zero_add];have c1:=y3f a0 [44];iterate 6 refine rS ?_
 refine AWP.cond rfl (fun hb => ?_) (fun hb => ?_)
 ·replace hR:=ct hR
  refine rS ?_;refine AWP.ret ?_;subst hR;exact es
 ·replace hR:=cf hR
  refine rS ?_;refine AWP.ret ?_;subst hR;exact es
end N59
def D_zaf : DF
 | [x0]=>some (.tup [.agg (ypf ((zaf (rdS x0)).1)),.bool ((zaf (rdS x0)).2)],false,[wS x0,(rdS x0).length<1099511627776,(rdS x0).length<=1048576])
 | _=>none
theorem y12:OkD Tryz.prog 59 D_zaf:=by unfold D_zaf;exact dk N59.den
end Go.Ab
