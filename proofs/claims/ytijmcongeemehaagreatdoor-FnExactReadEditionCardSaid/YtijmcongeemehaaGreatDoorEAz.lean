/- A part of a proof: walks of functions and lemmas of our own. No conditions. -/
import Derived.Test.YtijmcongeemehaaGreatDoorEAy
import Derived.Test.YtijmcongeemehaaGreatDoorEAs
import Derived.Test.YtijmcongeemehaaGreatDoorEAl
import Derived.Test.YtijmcongeemehaaGreatDoorEAi
import Derived.Test.YtijmcongeemehaaGreatDoorEAp
import Derived.Test.YtijmcongeemehaaGreatDoorEAr
import Derived.Test.YtijmcongeemehaaGreatDoorEAv
import Derived.Test.YtijmcongeemehaaGreatDoorEAu
import Derived.Test.YtijmcongeemehaaGreatDoorEAx
import Derived.Test.YtijmcongeemehaaGreatDoorEAt
import Derived.Test.YtijmcongeemehaaGreatDoorEAo
set_option linter.unusedSectionVars false
set_option linter.unusedVariables false
set_option linter.unusedSimpArgs false
set_option maxHeartbeats 1000000











namespace Go.Ab
open Go Go.Proofs
def jl : List (List UInt8) -> Nat
 | []=>0
 | x::r=>x.length+jl r
theorem ypj (s : List UInt8) : ∀ r : List (List UInt8), (Lib.joinTail s r).length = jl r + r.length * s.length
 | []=>by simp[Lib.joinTail,jl]
 | x::r=>by
  have ih:=ypj s r;unfold Lib.joinTail at ih ⊢;simp only[List.map_cons,List.flatten_cons,List.length_append,List.length_cons,jl,ih,Nat.add_mul];omega
theorem yvf (s:List UInt8) (xs:List (List UInt8)):(Lib.join xs s).length<=jl xs+xs.length * s.length:=by
 cases xs with
 | nil=>simp[Lib.join_nil]
 | cons x r=>
  rw[Lib.join_cons,List.length_append,ypj];simp only[jl,List.length_cons,Nat.add_mul];omega
theorem ynz : ∀ (k n : Nat), n < 10 ^ (k + 1) -> (Lib.decDigits n).length <= k + 1
 | 0,n,h=>by rw[Lib.decDigits_one (by simpa using h)];simp
 | k+1,n,h=>by
  by_cases h10:n<10
  ·rw[Lib.decDigits_one h10];simp
  ·rw[ygb _ h10,List.length_append,List.length_singleton]
   have:=ynz k (n / 10) (by rw[Nat.div_lt_iff_lt_mul (by decide)];rwa [Nat.pow_succ]at h);omega
theorem ywh (n:Int) (k:Nat) (h0:0<=n) (h:n<((10 ^ (k+1):Nat):Int)):(Lib.itoa n).length<=k+1:=by
 rw[yfe (by omega)];exact ynz k _ (by omega)
theorem y0w {α:Type} (c:UInt8) (d:α) (f:α->List UInt8) (x:α) (r:List α):(List.range' 1 r.length).flatMap (fun j=>c::f ((x::r).getD j d))=Lib.joinTail [c] (r.map f):=by
 unfold Lib.joinTail;rw[List.map_map, <- List.flatMap_def]
 have h:(List.range' 1 r.length).flatMap (fun j=>c::f ((x::r).getD j d))=(List.range' 0 r.length).flatMap (fun j=>c::f (r.getD j d)):=by
  rw[List.flatMap_def,List.flatMap_def];congr 1
  apply List.ext_getElem
  ·simp
  ·intro i h1 h2
   simp[List.getElem_range',Nat.add_comm 1 i]
 rw[h];rw[List.flatMap_def,List.flatMap_def];congr 1
 apply List.ext_getElem
 ·simp
 ·intro i h1 h2
  simp only[List.length_map]at h2;simp[List.getD_eq_getElem?_getD,h2]
def zzf (a0:Int) (a1:Int) (a2:Int):(List UInt8):=
 (znb [[101,100,105,116,105,111,110],(zl a0),(zbb a1),(zl a2)] [32])
namespace N180
theorem DD:DOk Tryz.prog (Go.Ab.DD [(253,dP D_zbb),(62,dP D_znb),(63,dP D_zl)]):=ya ysu.e <| ya yei.e <| ya yye.e <| ye _
theorem dn:type_of% (And.intro @D_zbb.eq_1 <| And.intro @D_znb.eq_1 <| @D_zl.eq_1):=by and_intros<;>intros<;>rfl
theorem gr {p:Prop} (h:p:=by(grind [yqs,yfc]);first|done|fail):p:=h
theorem o0 {p:Prop} (h:p:=by(first|((repeat' with_reducible apply And.intro)<;>(first|omega|assumption|(simp only[List.length_append,List.length_cons,List.length_nil,List.length_singleton];omega)|(refine Nat.le_trans (yvf _ _) ?_;simp only[jl,List.length_cons,List.length_nil];omega))));first|done|fail):p:=h
theorem lx {p:Prop} (h:p:=by(exact lxx);first|done|fail):p:=h
set_option maxHeartbeats 1000000 in
set_option maxRecDepth 20000 in
theorem den (a0:Int) (a1:Int) (a2:Int) (hp0 : -9223372036854775808<=a0) (hp1:a0<=9223372036854775807) (hp2 : -9223372036854775808<=a2) (hp3:a2<=9223372036854775807):Den Tryz.prog 180 [.int .i64 a0,.int .i64 a1,.int .i64 a2] (.str (zzf a0 a1 a2)):=by
 generalize hR:zzf a0 a1 a2=r;unfold zzf at hR;refine di Tryz.func180 Tryz.ntmps180 Tryz.results180 ?_;intro c hL hc hk;clear hL;simp only[pars,Nat.zero_add];have l1:=yzd a0 hp0 hp1;have l2:=yqs a1;have l3:=yzd a2 hp2 hp3;iterate 2 refine rS ?_
 refine AWP.ret ?_;subst hR;exact es
end N180
def D_zzf : DF
 | [x0,x1,x2]=>some (.str (zzf (rdI x0) (rdI x1) (rdI x2)),false,[wI .i64 x0,wI .i64 x1,wI .i64 x2,-9223372036854775808<=(rdI x0),(rdI x0)<=9223372036854775807,-9223372036854775808<=(rdI x2),(rdI x2)<=9223372036854775807])
 | _=>none
theorem yy1:OkD Tryz.prog 180 D_zzf:=by unfold D_zzf;exact dk N180.den
def znf (a0:(List UInt8)):(List UInt8):=
 [99,104,101,99,107,32]++(zl (zeb a0 65535))
namespace N97
theorem DD:DOk Tryz.prog (Go.Ab.DD [(178,dP D_zeb),(63,dP D_zl)]):=ya yf4.e <| ya yye.e <| ye _
theorem dn:type_of% (And.intro @D_zeb.eq_1 <| @D_zl.eq_1):=by and_intros<;>intros<;>rfl
theorem gr {p:Prop} (h:p:=by(grind [yfc]);first|done|fail):p:=h
theorem o0 {p:Prop} (h:p:=by(first|((repeat' with_reducible apply And.intro)<;>(first|omega|assumption|(simp only[List.length_append,List.length_cons,List.length_nil,List.length_singleton];omega)|(refine Nat.le_trans (yvf _ _) ?_;simp only[jl,List.length_cons,List.length_nil];omega))));first|done|fail):p:=h
set_option maxHeartbeats 1000000 in
set_option maxRecDepth 20000 in
theorem den (a0:(List UInt8)) (hb0:a0.length<1099511627776):Den Tryz.prog 97 [.str a0] (.str (znf a0)):=by
 generalize hR:znf a0=r;unfold znf at hR;refine di Tryz.func97 Tryz.ntmps97 Tryz.results97 ?_;intro c hL hc hk;obtain⟨hL0,_⟩:=hL;have hw0:a0.length<9223372036854775808:=Nat.lt_succ_of_le hL0;clear hL0;simp only[pars,Nat.zero_add];have h9:=y0s a0;have h9:0<=zeb a0 65535/\zeb a0 65535<=65535:=h9;have l1:=yfc (zeb a0 65535);iterate 2 refine rS ?_
 refine AWP.ret ?_;subst hR;exact es
end N97
def D_znf : DF
 | [x0]=>some (.str (znf (rdS x0)),false,[wS x0,(rdS x0).length<1099511627776])
 | _=>none
theorem yx4:OkD Tryz.prog 97 D_znf:=by unfold D_znf;exact dk N97.den
theorem yto (s:List UInt8):(znf s).length<=100000:=by
 have h9:0<=zeb s 65535/\zeb s 65535<=65535:=y0s s;have l1:=yfc (zeb s 65535);unfold znf;simp only[List.length_append,List.length_cons,List.length_nil];omega
theorem ywv (s:List UInt8):0<=zlb s 65535/\zlb s 65535<=65535:=by
 rw[<- y15];exact y0s s
def u8D (k:Nat):UInt8:=UInt8.ofNat (48+k)
theorem yyi {k:Nat} (h:k<10):(u8D k).toNat=48+k:=ycn k h
def pad2 (m:Nat):List UInt8:=[u8D (m / 10),u8D (m % 10)]
def pad4 (y:Nat):List UInt8:=[u8D (y / 1000),u8D (y / 100 % 10),u8D (y / 10 % 10),u8D (y % 10)]
theorem y3c {m:Nat} (h:m<100):yub (pad2 m)/\digV 0 (pad2 m)=m:=by
 have h1:=yyi (k:=m / 10) (by omega);have h2:=yyi (k:=m % 10) (by omega);refine⟨fun b hb => ?_,?_⟩
 ·simp only[pad2,List.mem_cons,List.not_mem_nil,or_false]at hb
  rcases hb with rfl|rfl<;>omega
 ·unfold pad2
  rw[y7,y7,y5c,h1,h2];omega
theorem ydi {y:Nat} (h:y<10000):yub (pad4 y)/\digV 0 (pad4 y)=y:=by
 have h1:=yyi (k:=y / 1000) (by omega);have h2:=yyi (k:=y / 100 % 10) (by omega);have h3:=yyi (k:=y / 10 % 10) (by omega);have h4:=yyi (k:=y % 10) (by omega);refine⟨fun b hb => ?_,?_⟩
 ·simp only[pad4,List.mem_cons,List.not_mem_nil,or_false]at hb
  rcases hb with rfl|rfl|rfl|rfl<;>omega
 ·unfold pad4
  rw[y7,y7,y7,y7,y5c,h1,h2,h3,h4];omega
theorem y72 {y:Nat} (h1:1000<=y) (h2:y<10000):Lib.decDigits y=pad4 y:=by
 rw[ygb y (by omega),ygb (y / 10) (by omega),ygb (y / 10 / 10) (by omega),Lib.decDigits_one (by omega)];unfold pad4 u8D;rw[show y / 10 / 10 / 10=y / 1000 by omega,show y / 10 / 10 % 10=y / 100 % 10 by omega];rfl
theorem ywk {m:Nat} (h:m<100):zyd (m:Int) 2=pad2 m:=by
 unfold zyd;rw[yq3,yxe];by_cases h10:m<10
 ·rw[Lib.decDigits_one h10]
  unfold pad2 u8D;rw[show m / 10=0 by omega,show m % 10=m by omega];rfl
 ·rw[ygb m h10,Lib.decDigits_one (by omega)]
  rfl
def D10 (y m d:Nat):List UInt8:=pad4 y++45::(pad2 m++45::pad2 d)
theorem ypc {a:Int} (h1:0<=a) (h2:a<=99999):∃ y m d:Nat,zt a=((y:Int),(m:Int),(d:Int))/\2000<=y/\y<=2273/\1<=m/\m<=12/\1<=d/\d<=31/\yvj a y m d/\zbb a=D10 y m d:=by
 obtain⟨y,m,d,e,hy,hd⟩:=y57 a h1 h2;have hm:=y0m (l:=yeb y) hd.2.1 hd.2.2.1;obtain⟨q1,q2,q3,q4,q5,q6⟩:=hd;refine⟨y.toNat,m.toNat,d.toNat,?_,by omega,by omega,by omega,by omega,by omega,by omega,?_,?_⟩
 ·rw[e,show(y.toNat:Int)=y by omega,show(m.toNat:Int)=m by omega,show(d.toNat:Int)=d by omega]
 ·rw[show(y.toNat:Int)=y by omega,show(m.toNat:Int)=m by omega,show(d.toNat:Int)=d by omega]
  exact⟨q1,q2,q3,q4,q5,q6⟩
 ·unfold zbb zqd ze
  simp only[h1,h2,decide_true,Bool.and_self,Bool.not_true,cond_false,e];conv=>lhs;rw[show y=(y.toNat:Int)by omega,show m=(m.toNat:Int)by omega,show d=(d.toNat:Int)by omega]
  rw[yq3,yxe,y72 (by omega) (by omega),ywk (by omega),ywk (by omega)];unfold D10;simp
theorem y3u (x:Int):(decide (x<48) || decide (57<x)) = !(decide (48<=x) && decide (x<=57)):=by
 apply Bool.eq_iff_iff.2;simp only[Bool.or_eq_true,decide_eq_true_eq,Bool.not_eq_true',Bool.and_eq_false_iff,decide_eq_false_iff_not];omega
theorem yqc (l:List UInt8) (h:l.length<=18):zyb l=if yub l then(((digV 0 l:Nat):Int),true)else(0,false):=by
 unfold zyb
 have hpow:(0+1) * 10 ^ (l.length-0)<=E18:=by
  have:10 ^ (l.length-0)<=10 ^ 18:=Nat.pow_le_pow_right (by decide) (by omega);have h6:(10:Nat) ^ 18=1000000000000000000:=by decide
  unfold E18;omega
 have hL:=yte l (yon l) (fun i s=>by
  unfold yon
  rw[y3u]) (l.length-0) 0 0 (by omega) hpow
 rw[List.drop_zero]at hL;rw[show(0:Int)=((0:Nat):Int)from rfl,hL];by_cases hA:yub l
 ·rw[if_pos hA,if_pos hA]
 ·rw[if_neg hA,if_neg hA];rfl
theorem ydh (l:List UInt8) (h:l.length<=18) (h0:l≠[]):zr l=if yub l then(((digV 0 l:Nat):Int),true)else(0,false):=by
 unfold zr
 have hpow:(0+1) * 10 ^ (l.length-0)<=E18:=by
  have:10 ^ (l.length-0)<=10 ^ 18:=Nat.pow_le_pow_right (by decide) (by omega);have h6:(10:Nat) ^ 18=1000000000000000000:=by decide
  unfold E18;omega
 have hL:=yte l (ycx l) (fun i s=>by
  unfold ycx
  rw[y3u]) (l.length-0) 0 0 (by omega) hpow
 rw[List.drop_zero]at hL;rw[show(0:Int)=((0:Nat):Int)from rfl,hL]
 have hw:ze (l.length:Int) 1 18=true:=by
  have:=List.length_pos_iff.2 h0;unfold ze;simp;omega
 by_cases hA:yub l
 ·rw[if_pos hA,if_pos hA];simp only[hw]
 ·rw[if_neg hA,if_neg hA];rfl
theorem yb1 {y:Int} (h1:2000<=y) (h2:y<=2274):0<=ybD y/\ybD y<=100284:=by unfold ybD;omega
theorem y97:∀ (l:Bool) (m:Fin 13),mbD l m<=335:=by decide
theorem yz8 {l:Bool} {m:Nat} (h:m<=12):mbD l m<=335:=y97 l ⟨m,by omega⟩
theorem yth (y m d:Nat) (h1:2000<=y) (h2:y<=2273) (h3:1<=m) (h4:m<=12) (h5:1<=d) (h6:d<=31):zdc y m d=ybD y+mbD (yeb y) m+d-1:=by
 have L1:=ynd (b:=ygn y m d) (I:=fun i t=>2000<=i/\(i<=2273->t=ybD i+d-1)) (fun i s hI=>by
  obtain⟨hI1,hI2⟩:=hI;unfold ygn;have hlp:zme (i:Int)=yeb (i:Int):=rfl;rw[hlp];by_cases hle:i<=2272
  ·have hs:=hI2 (by omega)
   have hb:=yb1 (y:=(i:Int)) (by omega) (by omega);have hn:=y5l (i:Int) (by omega)
   cases hl:yeb (i:Int)with
   | true=>
    rw[hl]at hn;simp only[cond_true]at hn ⊢;refine⟨_,rfl,by omega,fun _ => ?_⟩;rw[yyb (n:=s+365) (by omega) (by omega),yyb (by omega) (by omega)];push_cast
    omega
   | false=>
    rw[hl]at hn;simp only[cond_false]at hn ⊢;refine⟨_,rfl,by omega,fun _ => ?_⟩;rw[yyb (by omega) (by omega)];push_cast
    omega
  ·cases yeb (i:Int)with
   | true=>exact⟨_,rfl,by omega,fun _=>by omega⟩
   | false=>exact⟨_,rfl,by omega,fun _=>by omega⟩) (y-2000) 2000 ((d:Int)-1) ⟨by omega,fun _=>by simp[ybD]⟩
 obtain⟨t,e1,_,q1⟩:=L1;have q1:=q1 (by omega);rw[show 2000+(y-2000)=y by omega]at q1;have hyb:=yb1 (y:=(y:Int)) (by omega) (by omega)
 have L2:=ynd (b:=yxp y m d t) (I:=fun i s=>1<=i/\(i<=12->s=t+mbD (yeb y) i)) (fun i s hI=>by
  obtain⟨hI1,hI2⟩:=hI;refine⟨_,rfl,by omega,fun hle => ?_⟩;have hs:=hI2 (by omega);have hm:=y2n (y:=(y:Int)) (m:=(i:Int)) (by omega) (by omega);have hsu:=ygs (l:=yeb y) (m:=(i:Int)) (by omega) (by omega);have hml:=y0m (l:=yeb y) (m:=(i:Int)) (by omega) (by omega);have hbl:=yz8 (l:=yeb y) (m:=i) (by omega);rw[show((i:Int)+1).toNat=i+1 by omega,Int.toNat_natCast]at hsu;rw[Int.toNat_natCast]at hm hml;rw[yyb (by omega) (by omega),hm]
  omega) (m-1) 1 t ⟨by omega,fun _=>by rw[yqn];simp⟩
 obtain⟨u,e2,_,q2⟩:=L2;have q2:=q2 (by omega);rw[show 1+(m-1)=m by omega]at q2;unfold zdc;rw[yyb (n:=(d:Int)-1) (by omega) (by omega),Int.toNat_natCast,Int.toNat_natCast,e1];simp only;rw[e2];simp only;omega
theorem ytp (y:Nat) (h1:2000<=y) (h2:y<=2273):zfc y=ybD y:=by
 have L1:=ynd (b:=yjl y) (I:=fun i t=>2000<=i/\(i<=2273->t=ybD i)) (fun i s hI=>by
  obtain⟨hI1,hI2⟩:=hI;refine⟨_,rfl,by omega,fun hle => ?_⟩;have hs:=hI2 (by omega);have hb:=yb1 (y:=(i:Int)) (by omega) (by omega);have hn:=y5l (i:Int) (by omega)
  have hyd:zjb (i:Int)=365+(bif yeb (i:Int)then 1 else 0):=by
   unfold zjb;rw[yvt (by omega) (by omega)];cases yeb (i:Int)<;>rfl
  have hy:=ykj (i:Int);rw[yyb (by omega) (by omega),hyd];push_cast
  omega) (y-2000) 2000 0 ⟨by omega,fun _=>by simp[ybD]⟩
 obtain⟨t,e1,_,q1⟩:=L1;have q1:=q1 (by omega);rw[show 2000+(y-2000)=y by omega]at q1;unfold zfc;rw[Int.toNat_natCast,e1];exact q1
theorem y5z (y m d:Nat) (h1:2000<=y) (h2:y<=2273) (h3:1<=m) (h4:m<=12) (h5:1<=d) (h6:d<=31):zjd y m d=ybD y+mbD (yeb y) m+d-1:=by
 have hyb:=yb1 (y:=(y:Int)) (by omega) (by omega)
 have L2:=ynd (b:=ygr y m d) (I:=fun i s=>1<=i/\(i<=12->s=ybD y+d-1+mbD (yeb y) i)) (fun i s hI=>by
  obtain⟨hI1,hI2⟩:=hI;refine⟨_,rfl,by omega,fun hle => ?_⟩;have hs:=hI2 (by omega);have hm:=y9j (y:=(y:Int)) (m:=(i:Int)) (by omega) (by omega) (by omega) (by omega);have hsu:=ygs (l:=yeb y) (m:=(i:Int)) (by omega) (by omega);have hml:=y0m (l:=yeb y) (m:=(i:Int)) (by omega) (by omega);have hbl:=yz8 (l:=yeb y) (m:=i) (by omega);rw[show((i:Int)+1).toNat=i+1 by omega,Int.toNat_natCast]at hsu;rw[Int.toNat_natCast]at hm hml;rw[yyb (by omega) (by omega),hm]
  omega) (m-1) 1 (ybD y+d-1) ⟨by omega,fun _=>by rw[yqn];simp⟩
 obtain⟨u,e2,_,q2⟩:=L2;have q2:=q2 (by omega);rw[show 1+(m-1)=m by omega]at q2;unfold zjd;rw[ytp y h1 h2,yyb (n:=ybD y+(d:Int)) (by omega) (by omega),yyb (by omega) (by omega),Int.toNat_natCast,e2];simp only;omega
end Go.Ab
