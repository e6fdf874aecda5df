/- A part of a proof: walks of functions and lemmas of our own. No conditions. -/
import Derived.Test.YtbgiihoaldolfaaGreatCAl
import Derived.Test.YtbgiihoaldolfaaGreatCAi
import Derived.Test.YtbgiihoaldolfaaGreatCAp
import Derived.Test.YtbgiihoaldolfaaGreatCAo
import Derived.Test.YtbgiihoaldolfaaGreatCAn
import Derived.Test.YtbgiihoaldolfaaGreatCAj
import Derived.Test.YtbgiihoaldolfaaGreatRows
set_option linter.unusedSectionVars false
set_option linter.unusedVariables false
set_option linter.unusedSimpArgs false
set_option maxHeartbeats 1000000


namespace Go.Ab
open Go Go.Proofs
theorem ys1 (s:List UInt8) (c:UInt8) : -1<=Go.Lib.indexByte s c/\(0<=Go.Lib.indexByte s c↔c∈s):=by
 induction s with
 | nil=>simp[Go.Lib.indexByte]
 | cons b l ih=>
  obtain⟨i1,i2⟩:=ih;by_cases hb:b=c
  ·subst hb;simp[Go.Lib.indexByte]
  ·have hb2:¬ c=b:=fun h=>hb h.symm
   have e1:(b == c)=false:=by simpa using hb
   by_cases hm:c∈l
   ·have h0:=i2.2 hm
    have e2:(Go.Lib.indexByte l c == -1)=false:=by rw[beq_eq_false_iff_ne];omega
    have e3:Go.Lib.indexByte (b::l) c=Go.Lib.indexByte l c+1:=by simp only[Go.Lib.indexByte,e1,e2,Bool.false_eq_true,if_false]
    rw[e3];exact⟨by omega,fun _=>List.mem_cons_of_mem _ hm,fun _=>by omega⟩
   ·have h0:¬ 0<=Go.Lib.indexByte l c:=fun h=>hm (i2.1 h)
    have e0:Go.Lib.indexByte l c = -1:=by omega
    have e3:Go.Lib.indexByte (b::l) c = -1:=by simp only[Go.Lib.indexByte,e1,e0,Bool.false_eq_true,if_false];rfl
    rw[e3];refine⟨by omega,fun h=>by omega,fun h => ?_⟩;rcases List.mem_cons.1 h with h|h
    ·exact absurd h hb2
    ·exact absurd h hm
theorem yz0 (s:List UInt8) (c:UInt8):zjd s [c]=decide (c∈s):=by
 unfold zjd;rw[List.getD_cons_zero];exact decide_eq_decide.2 (ys1 s c).2
def zsd (a0:Int):Bool:=
 (a0 != a0)
namespace N94
theorem DD:DOk Tryz.prog (Go.Ab.DD []):=yj _
theorem den (a0:Int)  : Den Tryz.prog 94 [.int .i64 a0] (.bool (zsd a0)):=by
 generalize hR:zsd a0=r;unfold zsd at hR;refine di Tryz.func94 Tryz.ntmps94 Tryz.results94 ?_;intro c hL hc hk;clear hL;simp only[pars,Nat.zero_add];iterate 2 refine rS ?_
 refine AWP.ret ?_;subst hR;exact es
end N94
def D_zsd : DF
 | [x0]=>some (.bool (zsd (rdI x0)),false,[wI .i64 x0])
 | _=>none
theorem yxx:OkD Tryz.prog 94 D_zsd:=by unfold D_zsd;exact dk N94.den
def ztd (a0:Int) (a1:Int):Int:=
 (bif (zsd a0)then(bif (zsd a1)then 0 else(-1))else(bif (zsd a1)then 1 else(bif decide (a0<a1)then(-1)else(bif decide (a1<a0)then 1 else 0))))
namespace N66
theorem DD:DOk Tryz.prog (Go.Ab.DD [(94,dP D_zsd)]):=yd yxx.e <| yj _
theorem dn:type_of% (@D_zsd.eq_1):=by and_intros<;>intros<;>rfl
theorem den (a0:Int) (a1:Int)  : Den Tryz.prog 66 [.int .i64 a0,.int .i64 a1] (.int .i64 (ztd a0 a1)):=by
 generalize hR:ztd a0 a1=r;unfold ztd at hR;refine di Tryz.func66 Tryz.ntmps66 Tryz.results66 ?_;intro c hL hc hk;clear hL;simp only[pars,Nat.zero_add];iterate 4 refine rS ?_
 refine AWP.cond rfl (fun hb => ?_) (fun hb => ?_)
 ·replace hR:=ct hR
  refine rS ?_;refine AWP.cond rfl (fun hb => ?_) (fun hb => ?_)
  ·replace hR:=ct hR
   refine rS ?_;refine AWP.ret ?_;subst hR;exact es
  ·replace hR:=cf hR
   refine rS ?_;refine AWP.ret ?_;subst hR;exact es
 ·replace hR:=cf hR
  refine rS ?_;refine AWP.cond rfl (fun hb => ?_) (fun hb => ?_)
  ·replace hR:=ct hR
   refine rS ?_;refine AWP.ret ?_;subst hR;exact es
  ·replace hR:=cf hR
   refine rS ?_;refine AWP.cond rfl (fun hb => ?_) (fun hb => ?_)
   ·replace hR:=ct hR
    refine rS ?_;refine AWP.ret ?_;subst hR;exact es
   ·replace hR:=cf hR
    refine rS ?_;refine AWP.cond rfl (fun hb => ?_) (fun hb => ?_)
    ·replace hR:=ct hR
     refine rS ?_;refine AWP.ret ?_;subst hR;exact es
    ·replace hR:=cf hR
     refine rS ?_;refine AWP.ret ?_;subst hR;exact es
end N66
def D_ztd : DF
 | [x0,x1]=>some (.int .i64 (ztd (rdI x0) (rdI x1)),false,[wI .i64 x0,wI .i64 x1])
 | _=>none
theorem yqx:OkD Tryz.prog 66 D_ztd:=by unfold D_ztd;exact dk N66.den
def y6n (a0:(List Int)) (a1:(List Int)) (i1:Nat) (s1:Unit):Except (Int) (Unit):=
 (bif decide ((a1.length:Int)<=(i1:Int))then .error 1 else(bif ((ztd (a0.getD i1 default) (a1.getD i1 default)) != 0)then .error (ztd (a0.getD i1 default) (a1.getD i1 default))else .ok ()))
def zmc (a0:(List Int)) (a1:(List Int)):Int:=
 (match ye (y6n a0 a1) (a0.length-0) 0 ()with|.error e=>e|.ok s1=>(bif decide ((a0.length:Int)<(a1.length:Int))then(-1)else 0))
namespace N52
theorem DD:DOk Tryz.prog (Go.Ab.DD [(66,dP D_ztd)]):=yd yqx.e <| yj _
theorem dn:type_of% (@D_ztd.eq_1):=by and_intros<;>intros<;>rfl
theorem den (a0:(List Int)) (a1:(List Int))  : Den Tryz.prog 52 [encL 1 yi a0,encL 1 yi a1] (.int .i64 (zmc a0 a1)):=by
 generalize hR:zmc a0 a1=r;unfold zmc at hR;refine di Tryz.func52 Tryz.ntmps52 Tryz.results52 ?_;intro c hL hc hk;obtain⟨hL0,hL1,_⟩:=hL;have hw0:a0.length<9223372036854775808:=Nat.lt_succ_of_le (yc hL0).1;have hw1:a1.length<9223372036854775808:=Nat.lt_succ_of_le (yc hL1).1;clear hL0 hL1;simp only[pars,Nat.zero_add];iterate 2 refine rS ?_
 refine AWP.block ?_;generalize hz1:ye (y6n a0 a1) (a0.length-0) 0 ()=z1 at hR;refine AWP.range (y6n a0 a1) (fun i1 s1=>⟨[(0,encL 1 yi a0),(1,encL 1 yi a1),(9,encL 1 yi a0),(10,.int .i64 (a0.length:Int)),(11,.int .i64 (i1:Int))],[]⟩) (fun i1 s1=>True) (a0.length) 0 () [] hz1 ot wt sm ?_;clear hz1;intro i1 s1 hi1 hW1 hz1;refine rS ?_;refine AWP.seq ?_;refine AWP.cond rfl (fun hb => ?_) (fun hb => ?_)
 ·have hlt1:i1<a0.length:=ot
  rw[yg hlt1]at hz1;simp only[y6n]at hz1;iterate 2 refine rS ?_
  refine AWP.cond rfl (fun hb => ?_) (fun hb => ?_)
  ·simp only[hb,cond_true]at hz1
   refine rS ?_;refine AWP.ret ?_;subst hz1;dsimp only at hR;subst hR;exact es
  ·simp only[hb,cond_false]at hz1
   iterate 3 refine rS ?_
   refine AWP.cond rfl (fun hb => ?_) (fun hb => ?_)
   ·simp only[hb,cond_true]at hz1
    refine rS ?_;refine AWP.ret ?_;subst hz1;dsimp only at hR;subst hR;exact es
   ·simp only[hb,cond_false]at hz1
    refine rS ?_;exact⟨_,[],hlt1,wt,hz1,sm⟩
 ·obtain rfl:i1=a0.length:=ot
  rw[yh (Nat.le_refl _)]at hz1;subst hz1;dsimp only at hR;refine AWP.exit ?_;refine yb ?_;refine rS ?_;refine AWP.cond rfl (fun hb => ?_) (fun hb => ?_)
  ·replace hR:=ct hR
   refine rS ?_;refine AWP.ret ?_;subst hR;exact es
  ·replace hR:=cf hR
   refine rS ?_;refine AWP.ret ?_;subst hR;exact es
end N52
def D_zmc : DF
 | [x0,x1]=>some (.int .i64 (zmc (rdL ydb x0) (rdL ydb x1)),false,[wL 1 yi ydb x0,wL 1 yi ydb x1])
 | _=>none
theorem yrx:OkD Tryz.prog 52 D_zmc:=by unfold D_zmc;exact dk N52.den
theorem yge (x:Int):IntKind.wrap .i64 x<=9223372036854775807:=by rw[IntKind.wrap_i64];omega
theorem mrg {p:Prop} (h:p:=by(and_intros<;>first|trivial|assumption|omega|exact yge _|(simp only[List.length_set];omega)|exact hW1.1|exact hW1.2|(simp only[IntKind.wrap_i64];omega));first|done|fail):p:=h
theorem digx {k a:Int} {n:Nat} (hW:0<=k/\n<=19/\k * 10 ^ n<=a) (hb:decide (0<k)=true) (ha:a<=9223372036854775807) :
  IntKind.wrap .i64 (k.tdiv 10)=k / 10/\n<=18/\(k / 10) * 10 ^ (n+1)<=a/\k<=9223372036854775807:=by
 obtain⟨h0,h1,h2⟩:=hW;have h:=of_decide_eq_true hb
 have p1:(1:Int)<=10 ^ n:=by
  have:=Nat.one_le_two_pow (n:=0);have h3:0<10 ^ n:=Nat.pow_pos (by omega);have h4:((10 ^ n:Nat):Int)=(10:Int) ^ n:=by simp
  omega
 have p2:=Int.mul_le_mul_of_nonneg_left p1 h0;rw[Int.mul_one]at p2;have hk:k<=9223372036854775807:=by omega
 refine⟨?_,?_,?_,hk⟩
 ·rw[Int.tdiv_eq_ediv_of_nonneg h0,IntKind.wrap_i64];omega
 ·by_cases hn:n=19
  ·subst hn
   have e:(10:Int) ^ 19=10000000000000000000:=by decide
   rw[e]at h2;omega
  ·omega
 ·have q:=Int.mul_le_mul_of_nonneg_right (Int.ediv_mul_le k (show(10:Int)≠0 by decide)) (show(0:Int)<=10 ^ n by omega)
  have e:(k / 10) * 10 ^ (n+1)=k / 10 * 10 * 10 ^ n:=by rw[Int.pow_succ];ac_rfl
  rw[e];omega
theorem digd {k a:Int} {n:Nat} (hW:0<=k/\n<=19/\k * 10 ^ n<=a) (hb:decide (0<k)=true) (ha:a<=9223372036854775807):(IntKind.wrap .i64 (k.tdiv 10)).toNat<k.toNat:=by
 have h:=of_decide_eq_true hb;rw[(digx hW hb ha).1];omega
theorem digw {k a:Int} {x l:List UInt8} (hx:x.length=1) (hW:0<=k/\l.length<=19/\k * 10 ^ l.length<=a) (hb:decide (0<k)=true) (ha:a<=9223372036854775807) :
  0<=IntKind.wrap .i64 (k.tdiv 10)/\(x++l).length<=19/\IntKind.wrap .i64 (k.tdiv 10) * 10 ^ (x++l).length<=a:=by
 obtain⟨e1,e2,e3,e4⟩:=digx hW hb ha;rw[e1,List.length_append,hx,Nat.add_comm 1];exact⟨by omega,by omega,e3⟩
def y9d (v:Character):Prop:=v.Group.length<=1048576/\v.Letter.length<=1048576/\v.Colors.length<=1048576
theorem ync (v:Character) (h:y9d v):bdCharacter v:=⟨Nat.lt_of_le_of_lt h.1 (by decide),Nat.lt_of_le_of_lt h.2.1 (by decide),Nat.lt_of_le_of_lt h.2.2 (by decide)⟩
theorem ned {α:Type} [DecidableEq α] (x y:α):(x != y) = !decide (x=y):=by by_cases h:x=y<;>simp[h]
namespace N45
theorem DD:DOk Tryz.prog (Go.Ab.DD []):=yj _
theorem o0 {p:Prop} (h:p:=by(first|exact hob);(first|done|fail)):p:=h
set_option maxHeartbeats 4000000 in
set_option maxRecDepth 40000 in
theorem den (cn cm n m b ms:Int) (bf:List (List Int)) (kl:List Bool) (ch:List Int) (ix:Int) (ho:ChoOk n m bf kl) (hch:ChOk m ch) (hlt:(ch.length:Int)<n) (hi0:0<=ix) (hi1:ix<m) :
  Den Tryz.prog 45 [.ep (choC cn cm (encL 1 yt bf) kl b ms (encL 1 yi ch)),.int .i64 ix] (.bool (yob bf kl ch ix)):=by
 generalize hR:yob bf kl ch ix=r;unfold yob at hR;refine di Tryz.func45 Tryz.ntmps45 Tryz.results45 ?_;intro c hL hc hk0;clear hL;obtain⟨n0,n1,m0,m1,hlen,hcl,hrow⟩:=ho;have hk:=And.intro hk0 yac;have dn:=choF hcl;have hlb:ch.length<bf.length:=by omega
 have hrow1:=(hrow ch.length hlb).1;have hrow2:=(hrow ch.length hlb).2;unfold choC;simp only[pars,Nat.zero_add];refine rS ?_;refine rD 13 ?_;try refine AWP.seq ?_
 refine AWP.block ?_;generalize hz1:ye (yud bf kl ch ix) ((bf.getD ch.length default).length-0) 0 ()=z1 at hR;refine AWP.range (yud bf kl ch ix) (fun i1 s1=>⟨[(0,.ep (.int .i64 cn::.int .i64 cm::encL 1 yt bf::(kl.map AV.bool++[.int .i64 b,.int .i64 ms,encL 1 yi ch]))),(1,.int .i64 ix),(17,encL 1 yi (bf.getD ch.length default)),(18,.int .i64 (((bf.getD ch.length default).length:Nat):Int)),(19,.int .i64 ((i1:Nat):Int))],[]⟩) (fun i1 s1=>True) (bf.getD ch.length default).length 0 () [] hz1 (Nat.zero_le _) trivial sm ?_;clear hz1;intro i1 s1 hi2 hW1 hz1;refine rS ?_;try refine AWP.seq ?_
 refine AWP.cond rfl (fun hb => ?_) (fun hb => ?_)
 ·have hlt1:i1<(bf.getD ch.length default).length:=by simpa using hb
  rw[yg hlt1]at hz1;simp only[yud]at hz1;have hv:=hrow2 _ (yz hlt1);have hcv:=hch _ (yz (l:=ch) (i:=((bf.getD ch.length default).getD i1 default).toNat) (by omega));refine AWP.skip ?_;try refine AWP.seq ?_
  refine AWP.block ?_;refine rS ?_;repeat refine AWP.seq ?_
  have hdr:dropL ((ch.getD ((bf.getD ch.length default).getD i1 default).toNat default).toNat * 1) (dropL (ix.toNat * 12) (List.map AV.bool kl++[AV.int .i64 b,AV.int .i64 ms,AV.sl none 1 ch.length fun i=>[AV.int .i64 (ch.getD i default)]]))=.bool (kl.getD (ix.toNat * 12+(ch.getD ((bf.getD ch.length default).getD i1 default).toNat default).toNat) false)::dropL ((ch.getD ((bf.getD ch.length default).getD i1 default).toNat default).toNat * 1+1) (dropL (ix.toNat * 12) (List.map AV.bool kl++[AV.int .i64 b,AV.int .i64 ms,AV.sl none 1 ch.length fun i=>[AV.int .i64 (ch.getD i default)]])):=by
   have hl9:ix.toNat * 12+(ch.getD ((bf.getD ch.length default).getD i1 default).toNat default).toNat<kl.length:=by omega
   have h9:=y3l (r:=[AV.int .i64 b,AV.int .i64 ms,AV.sl none 1 ch.length fun i=>[AV.int .i64 (ch.getD i default)]]) kl _ hl9;rw[Nat.mul_one];simp only[y5i,List.drop_drop]at h9 ⊢;rw[show ix.toNat * 12+((ch.getD ((bf.getD ch.length default).getD i1 default).toNat default).toNat+1)=ix.toNat * 12+(ch.getD ((bf.getD ch.length default).getD i1 default).toNat default).toNat+1 by omega];exact h9
  have hds:=dn;clear dn;have dn:=And.intro hds hdr;refine rD 14 ?_;clear dn;have dn:=hds;try refine AWP.seq ?_
  refine AWP.cond rfl (fun hb1 => ?_) (fun hb1 => ?_)
  ·rw[hb1,cond_true]at hz1
   refine rS ?_;refine AWP.ret ?_;subst hz1;dsimp only at hR;subst hR;exact es
  ·rw[hb1,cond_false]at hz1
   refine AWP.skip ?_;refine rS ?_;exact⟨_,[],hlt1,trivial,hz1,sm⟩
 ·obtain rfl:i1=(bf.getD ch.length default).length:=(by have:¬ (i1<(bf.getD ch.length default).length):=(by simpa using hb);omega)
  rw[yh (Nat.le_refl _)]at hz1;subst hz1;dsimp only at hR;refine AWP.exit ?_;refine yb ?_;refine rS ?_;refine AWP.ret ?_;subst hR;exact es
end N45
theorem y6c:OkD Tryz.prog 45 D_impl_choosing_allowed:=by
 intro xs r z ob h ho;unfold D_impl_choosing_allowed at h;split at h
 ·rename_i cs x1
  simp only[Option.some.injEq,Prod.mk.injEq]at h;obtain⟨rfl,rfl,rfl⟩:=h;obtain⟨⟨n0,m0,b0,ms0,hw⟩,hx,⟨n,m,hok,hch,hlt,hi0,hi1⟩,_⟩:=ho;refine Den.sim (N45.den n0 m0 n m b0 ms0 (rdBf cs) (rdCl cs) (rdCh cs) (rdI x1) hok hch hlt hi0 hi1) ?_ ?_ rfl
  ·exact y5 hw (y5 (y8e hx).1 trivial)
  ·exact y7 rfl (y7 (y8e hx).2 rfl)
 ·cases h
namespace N24
theorem DD:DOk Tryz.prog (Go.Ab.DD []):=yj _
theorem o0 {p:Prop} (h:p:=by(first|exact hob);(first|done|fail)):p:=h
set_option maxHeartbeats 2000000 in
set_option maxRecDepth 20000 in
theorem den (bf:List (List Int)) (kl:List (List Bool)) (ms bud:Int) (ho:RunOk bf kl ms bud):∀ (k:Nat) (ch us:List Int) (nd:Int),ch.length+k=bf.length->(∀ v∈ch,0<=v/\v<(kl.length:Int))->us.length=kl.length->(∀ v∈us,0<=v/\v<=(ch.length:Int))->0<=nd/\nd<=bud ->
  DenI Tryz.prog 24 1 (runH bf kl ms bud ch us nd false) [.ptr 0 0] (runH bf kl ms bud (sR bf kl ms bud k ch us nd).2.1 (sR bf kl ms bud k ch us nd).2.2.1 (sR bf kl ms bud k ch us nd).2.2.2.1 (sR bf kl ms bud k ch us nd).2.2.2.2) (.bool (sR bf kl ms bud k ch us nd).1):=by
 have ho9:=ho;obtain⟨n1,m1,hrow,hcls,hms0,hms1,hb0,hb1⟩:=ho;intro k
 induction k with
 | zero=>
  intro ch us nd hlk hch hul hus hnd;refine dI Tryz.func24 Tryz.ntmps24 Tryz.results24 ?_;intro c hL hc hk0;clear hL;have hk:=hk0;have dn:=True.intro;unfold runH;simp only[pars,Nat.zero_add,sR];refine rS ?_;refine rS ?_;refine rS ?_;try refine AWP.seq ?_
  refine AWP.cond rfl (fun hb => ?_) (fun hb => ?_)
  ·refine rS ?_
   refine AWP.ret ?_;simp only[y2c,en,ea];refine⟨[0,1,2,3,4],?_⟩;exact sm
  ·exfalso
   simp only[beq_eq_false_iff_ne]at hb;omega
 | succ k ih=>
  intro ch us nd hlk hch hul hus hnd;generalize hR:sR bf kl ms bud (k+1) ch us nd=r;unfold sR at hR;refine dI Tryz.func24 Tryz.ntmps24 Tryz.results24 ?_;intro c hL hc hk0;clear hL;have hk:=hk0;have dn:=True.intro;unfold runH;simp only[pars,Nat.zero_add];refine rS ?_;refine rS ?_;refine rS ?_;try refine AWP.seq ?_
  refine AWP.cond rfl (fun hb => ?_) (fun hb => ?_)
  ·exfalso
   have h9:=eq_of_beq hb;omega
  ·refine rS ?_
   refine AWP.block ?_;generalize hz1:ye (sR_b bf kl ms bud (sR bf kl ms bud k) ch us) (kl.length-0) 0 (nd,false)=z1 at hR;refine AWP.range (sR_b bf kl ms bud (sR bf kl ms bud k) ch us) (fun c1 s1=>⟨[(0,.ptr 0 0),(3,.int .i64 ((ch.length:Nat):Int)),(4,.int .i64 ((c1:Nat):Int))],[.box [.ref 1 1 0 bf.length,.ref 2 1 0 kl.length,.ref 3 1 0 (ch).length,.ref 4 1 0 (us).length,.int .i64 ms,.int .i64 s1.1,.int .i64 bud,.bool s1.2],.arr 26 1 bf.length (fun j=>yw (bf.getD j default)),.arr 68 1 kl.length (fun j=>eLBO (kl.getD j default)),.arr 2 1 (ch).length (fun j=>yi ((ch).getD j default)),.arr 2 1 (us).length (fun j=>yi ((us).getD j default))]⟩) (fun c1 s1=>0<=s1.1/\s1.1<=bud) kl.length 0 (nd,false) [0,1,2,3,4] hz1 ot (by exact hnd) sm ?_;clear hz1;intro c1 s1 hc1 hW1 hz1;refine rS ?_;try refine AWP.seq ?_
   refine AWP.cond rfl (fun hb => ?_) (fun hb => ?_)
   ·have hlt1:c1<kl.length:=ot
    rw[yg hlt1]at hz1;simp only[sR_b]at hz1;refine AWP.skip ?_;try refine AWP.seq ?_
    refine AWP.block ?_;refine rS ?_;refine rS ?_;try refine AWP.seq ?_
    refine AWP.block ?_;refine AWP.loop (ι:=Nat) (fun q=>⟨[(0,.ptr 0 0),(3,.int .i64 ((ch.length:Nat):Int)),(4,.int .i64 ((c1:Nat):Int)),(5,.int .i64 (cntP us q)),(6,.int .i64 ((q:Nat):Int))],[.box [.ref 1 1 0 bf.length,.ref 2 1 0 kl.length,.ref 3 1 0 (ch).length,.ref 4 1 0 (us).length,.int .i64 ms,.int .i64 s1.1,.int .i64 bud,.bool s1.2],.arr 26 1 bf.length (fun j=>yw (bf.getD j default)),.arr 68 1 kl.length (fun j=>eLBO (kl.getD j default)),.arr 2 1 (ch).length (fun j=>yi ((ch).getD j default)),.arr 2 1 (us).length (fun j=>yi ((us).getD j default))]⟩) (fun q=>q<=us.length) (fun q=>us.length-q) 0 (Nat.zero_le _) [0,1,2,3,4] sm ?_;intro q hq;refine rS ?_;try refine AWP.seq ?_
    refine AWP.cond rfl (fun hq1 => ?_) (fun hq1 => ?_)
    ·have hlq:q<us.length:=by simpa using hq1
     refine AWP.skip ?_;try refine AWP.seq ?_
     refine AWP.block ?_;refine rS ?_;try refine AWP.seq ?_
     refine AWP.cond rfl (fun hq2 => ?_) (fun hq2 => ?_)
     ·have hcq:=yoo hlq
      rw[if_pos (of_decide_eq_true hq2)]at hcq;have hcr:=ynw us q;refine rS ?_;refine rS ?_;refine⟨q+1,[0,1,2,3,4],hlq,by omega,?_⟩;have e1:cntP us (q+1)=IntKind.wrap .i64 (cntP us q+1):=by rw[hcq,IntKind.wrap_i64];omega
      have e2:(((q+1:Nat)):Int)=IntKind.wrap .i64 ((q:Int)+1):=by rw[IntKind.wrap_i64];omega
      rw[e1,e2];exact sm
     ·have hcq:=yoo hlq
      rw[if_neg (of_decide_eq_false hq2)]at hcq;refine AWP.skip ?_;refine rS ?_;refine⟨q+1,[0,1,2,3,4],hlq,by omega,?_⟩;have e1:cntP us (q+1)=cntP us q:=by rw[hcq];omega
      have e2:(((q+1:Nat)):Int)=IntKind.wrap .i64 ((q:Int)+1):=by rw[IntKind.wrap_i64];omega
      rw[e1,e2];exact sm
    ·obtain rfl:q=us.length:=(by have:¬ (q<us.length):=(by simpa using hq1);omega)
     refine AWP.exit ?_;refine yb ?_;rw[show cntP us us.length=ygv us from rfl];refine rS ?_;refine rS ?_;try refine AWP.seq ?_
     refine AWP.block ?_;generalize hF0:(decide (0<us.getD c1 default) || decide (ygv us<ms))=F0;have hlb:ch.length<bf.length:=by omega
     have hrow1:=(hrow ch.length hlb).1;have hrow2:=(hrow ch.length hlb).2;refine AWP.loop (ι:=Nat) (fun q=>⟨[(0,.ptr 0 0),(3,.int .i64 ((ch.length:Nat):Int)),(4,.int .i64 ((c1:Nat):Int)),(7,.bool (F0 && ((bf.getD ch.length default).take q).all (rowP kl ch c1))),(8,.int .i64 ((q:Nat):Int))],[.box [.ref 1 1 0 bf.length,.ref 2 1 0 kl.length,.ref 3 1 0 (ch).length,.ref 4 1 0 (us).length,.int .i64 ms,.int .i64 s1.1,.int .i64 bud,.bool s1.2],.arr 26 1 bf.length (fun j=>yw (bf.getD j default)),.arr 68 1 kl.length (fun j=>eLBO (kl.getD j default)),.arr 2 1 (ch).length (fun j=>yi ((ch).getD j default)),.arr 2 1 (us).length (fun j=>yi ((us).getD j default))]⟩) (fun q=>q<=(bf.getD ch.length default).length) (fun q=>(bf.getD ch.length default).length-q) 0 (Nat.zero_le _) [0,1,2,3,4] (by simp only[List.take_zero,List.all_nil,Bool.and_true];exact sm) ?_;intro q hq;refine rS ?_;try refine AWP.seq ?_
     refine AWP.cond rfl (fun hq1 => ?_) (fun hq1 => ?_)
     ·have hq2:=hq1
      simp only[Bool.and_eq_true,decide_eq_true_eq]at hq2;have hlq:q<(bf.getD ch.length default).length:=by omega
      have hFq:(F0 && ((bf.getD ch.length default).take q).all (rowP kl ch c1))=true:=by simp only[Bool.and_eq_true];exact hq2.2
      have hmem:(bf.getD ch.length default).getD q default∈bf.getD ch.length default:=yz hlq;have hv:=hrow2 _ hmem;have hchv:=hch _ (yz (l:=ch) (i:=((bf.getD ch.length default).getD q default).toNat) (by omega));have hkc:=hcls c1 hlt1;refine AWP.skip ?_;try refine AWP.seq ?_
      refine AWP.block ?_
      have hob:((0<=(c1:Int)/\(c1:Int)<(kl.length:Int))/\c1<kl.length/\(0<=(ch.length:Int)/\(ch.length:Int)<(bf.length:Int))/\ch.length<bf.length/\(0<=(q:Int)/\(q:Int)<((bf.getD ch.length default).length:Int)) /\
        (0<=(bf.getD ch.length default).getD q default/\(bf.getD ch.length default).getD q default<(ch.length:Int))/\((bf.getD ch.length default).getD q default).toNat<ch.length /\
        0<=ch.getD ((bf.getD ch.length default).getD q default).toNat default/\ch.getD ((bf.getD ch.length default).getD q default).toNat default<((kl.getD c1 default).length:Int)):=
       ⟨by omega,hlt1,by omega,hlb,by omega,hv,by omega,hchv.1,by rw[hkc];exact hchv.2⟩
      have hEq:(F0 && ((bf.getD ch.length default).take (q+1)).all (rowP kl ch c1))=(!(kl.getD c1 default).getD (ch.getD ((bf.getD ch.length default).getD q default).toNat default).toNat default):=by
       rw[Bool.and_eq_true]at hFq;rw[hFq.1,Bool.true_and,List.take_add_one,List.all_append,hFq.2,Bool.true_and,List.getElem?_eq_getElem hlq];simp only[Option.toList_some,List.all_cons,List.all_nil,Bool.and_true,rowP];rw[show(bf.getD ch.length default).getD q default=(bf.getD ch.length default)[q]by rw[List.getD_eq_getElem?_getD,List.getElem?_eq_getElem hlq,Option.getD_some]]
      refine rD 26 ?_;refine rS ?_;refine⟨q+1,[0,1,2,3,4],hlq,by omega,?_⟩;have e2:(((q+1:Nat)):Int)=IntKind.wrap .i64 ((q:Int)+1):=by rw[IntKind.wrap_i64];omega
      rw[hEq,e2];exact sm
     ·have hFin:(F0 && ((bf.getD ch.length default).take q).all (rowP kl ch c1))=ytm bf kl ms ch us c1:=by
       unfold ytm;rw[hF0];by_cases hql:q=(bf.getD ch.length default).length
       ·rw[hql,List.take_length]
       ·have hlq:q<(bf.getD ch.length default).length:=by omega
        rw[decide_eq_true (show(q:Int)<((bf.getD ch.length default).length:Int)by omega),Bool.true_and]at hq1;rw[hq1]
        cases hc0:F0 with
        | false=>rfl
        | true=>
         rw[hc0,Bool.true_and]at hq1;rw[Bool.true_and];symm
         rw[<- List.take_append_drop q (bf.getD ch.length default),List.all_append,hq1,Bool.false_and]
      rw[hFin];refine AWP.exit ?_;refine yb ?_;refine rS ?_;try refine AWP.seq ?_
      refine AWP.cond rfl (fun hb1 => ?_) (fun hb1 => ?_)
      ·rw[hb1,cond_true]at hz1
       refine AWP.exit ?_;refine yb ?_;refine rS ?_;exact⟨_,[0,1,2,3,4],hlt1,hW1,hz1,sm⟩
      ·rw[hb1,cond_false]at hz1
       refine AWP.skip ?_;refine rD 8 ?_;try refine AWP.seq ?_
       refine AWP.cond rfl (fun hb2 => ?_) (fun hb2 => ?_)
       ·rw[hb2,Bool.true_or,cond_true]at hz1
        refine rS ?_;refine rS ?_;try refine AWP.seq ?_
        refine AWP.cond rfl (fun hb3 => ?_) (fun hb3=>nomatch hb3);refine rS ?_;refine AWP.ret ?_;subst hz1;dsimp only at hR;subst hR;simp only[y2c,en,ea];refine⟨[0,1,2,3,4],?_⟩;exact sm
       ·rw[hb2,Bool.false_or]at hz1
        refine AWP.skip ?_;refine rS ?_;try refine AWP.seq ?_
        refine AWP.cond rfl (fun hb3 => ?_) (fun hb3 => ?_)
        ·rw[hb3,cond_true]at hz1
         refine rS ?_;refine AWP.ret ?_;subst hz1;dsimp only at hR;subst hR;simp only[y2c,en,ea];refine⟨[0,1,2,3,4],?_⟩;rw[hb3];exact sm
        ·rw[hb3,cond_false]at hz1
         refine AWP.skip ?_;refine rS ?_;refine rS ?_;refine rS ?_;have hub:=hus _ (yz (l:=us) (i:=c1) (by omega));have hwu:IntKind.wrap .i64 (us.getD c1 default+1)=us.getD c1 default+1:=by rw[IntKind.wrap_i64];omega
         have hb2':s1.1≠bud:=by simpa using hb2
         have hwn:IntKind.wrap .i64 (s1.1+1)=s1.1+1:=by rw[IntKind.wrap_i64];omega
         refine AWP.arrS 4 (fun j=>yi ((us.set c1 (us.getD c1 default+1)).getD j default)) rfl (fun j hj => ?_) ?_
         ·by_cases hjc:j=c1
          ·subst hjc
           rw[yhd _ _ _ hj];simp only[beq_self_eq_true,cond_true,hwu];exact yp _
          ·rw[yid _ _ _ _ hjc]
           simp only[beq_eq_false_iff_ne.2 hjc,cond_false];exact yp _
         simp only[setE];refine AWP.sim (s':=⟨[(0,.ptr 0 0),(3,.int .i64 ((ch.length:Nat):Int)),(4,.int .i64 ((c1:Nat):Int))],[.box [.ref 1 1 0 bf.length,.ref 2 1 0 kl.length,.ref 3 1 0 (ch++[(c1:Int)]).length,.ref 4 1 0 (us.set c1 (us.getD c1 default+1)).length,.int .i64 ms,.int .i64 (s1.1+1),.int .i64 bud,.bool false],.arr 26 1 bf.length (fun j=>yw (bf.getD j default)),.arr 68 1 kl.length (fun j=>eLBO (kl.getD j default)),.arr 2 1 (ch++[(c1:Int)]).length (fun j=>yi ((ch++[(c1:Int)]).getD j default)),.arr 2 1 (us.set c1 (us.getD c1 default+1)).length (fun j=>yi ((us.set c1 (us.getD c1 default+1)).getD j default))]⟩) [0,1,2,6,4] ?_ (by rw[hwn,hb3,List.length_set];exact sm)
         have hchk:∀ v∈ch++[(c1:Int)],0<=v/\v<(kl.length:Int):=fun v hv=>by
          rcases List.mem_append.1 hv with h|h
          ·exact hch v h
          ·rw[List.mem_singleton]at h;subst h;omega
         have husk:∀ v∈us.set c1 (us.getD c1 default+1),0<=v/\v<=((ch++[(c1:Int)]).length:Int):=fun v hv=>by
          rw[List.length_append,List.length_singleton];rcases List.mem_or_eq_of_mem_set hv with h|h
          ·have:=hus v h;omega
          ·subst h;omega
         have hih:=ih (ch++[(c1:Int)]) (us.set c1 (us.getD c1 default+1)) (s1.1+1) (by rw[List.length_append,List.length_singleton];omega) hchk (by rw[List.length_set];exact hul) husk (by omega);have hpr:=yog bf kl ms bud k (ch++[(c1:Int)]) (us.set c1 (us.getD c1 default+1)) (s1.1+1) (by omega);generalize sR bf kl ms bud k (ch++[(c1:Int)]) (us.set c1 (us.getD c1 default+1)) (s1.1+1)=p at hih hpr hz1;repeat refine AWP.seq ?_
         refine AWP.callI G_ok DD hc 1 hih (by rw[hk0];exact Nat.le_refl _) rfl (by kernel_rfl) rfl rfl (fun K hK => ?_);simp only[yke,runH,ypc,y3c,Nat.blt,Nat.ble,List.map,List.take,List.append,ea,absV,absVL,cput,gv,sv,dn,reduceCtorEq,reduceIte,Nat.reduceBEq,Nat.reduceAdd,Nat.reduceEqDiff,Nat.reduceLT,Nat.reduceLeDiff,Nat.reduceMul,Nat.reduceSub,BEq.rfl,beq_self_eq_true,Int.reduceToNat];refine hK _ ?_;clear hK K;try refine AWP.seq ?_
         refine AWP.cond rfl (fun hb4 => ?_) (fun hb4 => ?_)
         ·rw[hb4,cond_true]at hz1
          refine rS ?_;refine AWP.ret ?_;subst hz1;dsimp only at hR;subst hR;simp only[y2c,en,ea];refine⟨[0,1,2,3,4],?_⟩;rw[hb4];exact sm
         ·rw[hb4,cond_false]at hz1
          obtain⟨hp1,hp2⟩:=hpr.1 hb4;refine AWP.skip ?_;rw[hp1,hp2];refine rS ?_;refine AWP.cutE 3 ch.length rfl (by rw[List.length_append];omega) ?_;simp only[setE];refine AWP.arrS 3 (fun j=>yi (ch.getD j default)) rfl (fun j hj => ?_) ?_
          ·rw[show(ch++[(c1:Int)]).getD j default=ch.getD j default by rw[List.getD_eq_getElem?_getD,List.getD_eq_getElem?_getD,List.getElem?_append_left hj]];exact yp _
          simp only[setE,List.length_set];refine rS ?_;have hg1:(us.set c1 (us.getD c1 default+1)).getD c1 default=us.getD c1 default+1:=yhd _ _ _ (by omega);have hwd:IntKind.wrap .i64 ((us.set c1 (us.getD c1 default+1)).getD c1 default-1)=us.getD c1 default:=by rw[hg1,IntKind.wrap_i64];omega
          refine AWP.arrS 4 (fun j=>yi (us.getD j default)) rfl (fun j hj => ?_) ?_
          ·by_cases hjc:j=c1
           ·subst hjc
            simp only[beq_self_eq_true,cond_true,hwd];exact yp _
           ·simp only[beq_eq_false_iff_ne.2 hjc,cond_false]
            rw[yid _ _ _ _ hjc];exact yp _
          simp only[setE];refine rS ?_;exact⟨_,[0,1,2,3,4],hlt1,hpr.2,hz1,sm⟩
   ·obtain rfl:c1=kl.length:=ot
    rw[yh (Nat.le_refl _)]at hz1;subst hz1;dsimp only at hR;refine AWP.exit ?_;refine yb ?_;refine rS ?_;refine AWP.ret ?_;subst hR;simp only[y2c,en,ea];refine⟨[0,1,2,3,4],?_⟩;exact sm
end N24
end Go.Ab
namespace Go.Ab
open Go Go.Proofs Go.Deep Go.ChangeShapes Go.WideShapes Go.ChangeAt Go.RowKit
set_option maxRecDepth 100000
theorem yn1:Rd Tryz.prog 26 (fun l:List Int=>[encL 1 yi l]):=yim Tryz.underlying26 (by kernel_rfl) (by decide) (yrg (k:=.i64) Tryz.underlying2)
theorem y21:Rd Tryz.prog 22 (fun l:List (List Int)=>[encL 1 yt l]):=yim Tryz.underlying22 (by kernel_rfl) (by decide) yn1
theorem y41:Rd Tryz.prog 42 eCharacter:=by
 intro H enc W base sp hd fuel cs x h;obtain⟨hl,hf⟩:=yqu Tryz.underlying42 h;have e0:Tryz.prog.cellsOf 42=5:=by kernel_rfl
 rw[e0]at hl;obtain⟨n0,y0,g0⟩:=hf 0 _ rfl;have c0:Tryz.prog.cellsOf 2=1:=by kernel_rfl
 obtain⟨v0,r0,o0⟩:=(yrg (k:=.i64) Tryz.underlying2) g0;replace r0:RepL W (fun _=>False) ([.int .i64 v0]) noMap ((cs.drop 0).take (Tryz.prog.cellsOf 2)) []:=r0;replace o0:∀ u∈(cs.drop 0).take (Tryz.prog.cellsOf 2),u.oneCell'=true:=o0;rw[c0]at r0 o0;obtain⟨n1,y1,g1⟩:=hf 1 _ rfl;have c1:Tryz.prog.cellsOf 26=1:=by kernel_rfl
 obtain⟨v1,r1,o1⟩:=yn1 g1;replace r1:RepL W (fun _=>False) ([encL 1 yi v1]) noMap ((cs.drop 1).take (Tryz.prog.cellsOf 26)) []:=r1;replace o1:∀ u∈(cs.drop 1).take (Tryz.prog.cellsOf 26),u.oneCell'=true:=o1;rw[c1]at r1 o1;obtain⟨n2,y2,g2⟩:=hf 2 _ rfl;have c2:Tryz.prog.cellsOf 9=1:=by kernel_rfl
 obtain⟨v2,r2,o2⟩:=(y1z Tryz.underlying9) g2;replace r2:RepL W (fun _=>False) ([.str v2]) noMap ((cs.drop 2).take (Tryz.prog.cellsOf 9)) []:=r2;replace o2:∀ u∈(cs.drop 2).take (Tryz.prog.cellsOf 9),u.oneCell'=true:=o2;rw[c2]at r2 o2;obtain⟨n3,y3,g3⟩:=hf 3 _ rfl;have c3:Tryz.prog.cellsOf 9=1:=by kernel_rfl
 obtain⟨v3,r3,o3⟩:=(y1z Tryz.underlying9) g3;replace r3:RepL W (fun _=>False) ([.str v3]) noMap ((cs.drop 3).take (Tryz.prog.cellsOf 9)) []:=r3;replace o3:∀ u∈(cs.drop 3).take (Tryz.prog.cellsOf 9),u.oneCell'=true:=o3;rw[c3]at r3 o3;obtain⟨n4,y4,g4⟩:=hf 4 _ rfl;have c4:Tryz.prog.cellsOf 2=1:=by kernel_rfl
 obtain⟨v4,r4,o4⟩:=(yrg (k:=.i64) Tryz.underlying2) g4;replace r4:RepL W (fun _=>False) ([.int .i64 v4]) noMap ((cs.drop 4).take (Tryz.prog.cellsOf 2)) []:=r4;replace o4:∀ u∈(cs.drop 4).take (Tryz.prog.cellsOf 2),u.oneCell'=true:=o4;rw[c4]at r4 o4;refine⟨⟨v0,v1,v2,v3,v4⟩,?_,?_⟩
 ·exact yqe (o:=0) (k:=1) r0 (yqe (o:=1) (k:=1) r1 (yqe (o:=2) (k:=1) r2 (yqe (o:=3) (k:=1) r3 (yqe (o:=4) (k:=1) r4 (yk0 (o:=5) (by omega))))))
 ·exact yxe (o:=0) (k:=1) o0 (yxe (o:=1) (k:=1) o1 (yxe (o:=2) (k:=1) o2 (yxe (o:=3) (k:=1) o3 (yxe (o:=4) (k:=1) o4 (yi0 (o:=5) (by omega))))))
theorem yt1:Rd Tryz.prog 23 (fun l:List Character=>[encL 5 eCharacter l]):=yim Tryz.underlying23 (by kernel_rfl) (by decide) y41
end Go.Ab
