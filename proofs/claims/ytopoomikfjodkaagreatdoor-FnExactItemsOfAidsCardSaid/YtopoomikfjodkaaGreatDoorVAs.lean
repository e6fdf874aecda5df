/- A part of a proof: walks of functions and lemmas of our own. No conditions. -/
import Derived.Test.YtopoomikfjodkaaGreatDoorVAl
import Derived.Test.YtopoomikfjodkaaGreatDoorVAo
import Derived.Lib.Join
import Derived.Test.YtopoomikfjodkaaGreatDoorVAp
set_option linter.unusedSectionVars false
set_option linter.unusedVariables false
set_option linter.unusedSimpArgs false
set_option maxHeartbeats 1000000
namespace Go.Ab
open Go Go.Proofs
def zd (a0:Int):(List UInt8):=
 (zbh a0 10)
namespace N107
theorem DD:DOk Tryz.prog (Go.Ab.DD [(219,dP D_zbh)]):=ya yc1.e <| yd _
theorem dn:type_of% (@D_zbh.eq_1):=by and_intros<;>intros<;>rfl
theorem den (a0:Int) (hp0 : -9223372036854775808≤a0) (hp1:a0≤9223372036854775807):Den Tryz.prog 107 [.int .i64 a0] (.str (zd a0)):=by
 generalize hR:zd a0=r
 unfold zd at hR
 refine di Tryz.func107 Tryz.ntmps107 Tryz.results107 ?_
 intro c hL hc hk
 clear hL
 simp only[pars,Nat.zero_add]
 iterate 2 refine rS ?_
 refine AWP.ret ?_
 subst hR
 exact es
end N107
def D_zd : DF
 | [x0]=>some (.str (zd (rdI x0)),false,[wI .i64 x0,-9223372036854775808≤(rdI x0),(rdI x0)≤9223372036854775807])
 | _=>none
theorem yjd:OkD Tryz.prog 107 D_zd:=by unfold D_zd;exact dk N107.den
end Go.Ab

namespace Go.Ab
open Go Go.Proofs
theorem ybn (n:Int):(Go.Lib.itoa n).length≤n.natAbs+2:=by
 unfold Go.Lib.itoa
 split
 ·have:=yyc n.natAbs
  simp only[List.length_cons]
  omega
 ·have:=yyc n.toNat
  omega
theorem y1q (n:Int):zd n=Go.Lib.itoa n:=rfl
theorem yvb (n:Int):(zd n).length≤n.natAbs+2:=ybn n
end Go.Ab

namespace Go.Ab
open Go Go.Proofs
theorem y8g (n:Int) (h1 : -9223372036854775808≤n) (h2:n≤9223372036854775807):(Lib.itoa n).length≤20:=by
 have h3:(Lib.decDigits n.natAbs).length≤19:=by
  by_cases h:n.natAbs<10
  ·have:=(yre n.natAbs).2 (by omega);omega
  ·rw[ylb _ h,List.length_append,List.length_singleton]
   have:=(yre (n.natAbs / 10)).2 (by omega);omega
 by_cases h:n<0
 ·rw[yqe h,List.length_cons];omega
 ·rw[yqq h];omega
theorem ydc (n:Int) (h1 : -9223372036854775808≤n) (h2:n≤9223372036854775807):(zd n).length≤20:=y8g n h1 h2
theorem y3k (n:Int):(zd (IntKind.wrap .i64 n)).length≤20:=ydc _ (by rw[IntKind.wrap_i64];omega) (by rw[IntKind.wrap_i64];omega)
theorem yhi (n:Int) : -10<n.tmod 10∧n.tmod 10<10:=⟨by have:=Int.lt_tmod_of_pos n (b:=10) (by omega);omega,Int.tmod_lt_of_pos n (by omega)⟩
theorem y9h (s : List UInt8) : ∀ (xs : List (List UInt8)) (m : Nat), (∀ x ∈ xs, x.length ≤ m) → (Lib.join xs s).length ≤ xs.length * (m + s.length)
 | [],m,_=>by simp[Lib.join_nil]
 | x::r,m,h=>by
  rw[Lib.join_cons,List.length_append]
  have h1:=h x (by simp)
  have h2:∀ r:List (List UInt8),(∀ x∈r,x.length≤m)→(Lib.joinTail s r).length≤r.length * (m+s.length):=by
   intro r
   induction r with
   | nil=>intro _;simp[Lib.joinTail]
   | cons y r ih=>
    intro h
    have h3:=ih (fun z hz=>h z (by simp[hz]))
    have h4:=h y (by simp)
    unfold Lib.joinTail at h3 ⊢
    simp only[List.map_cons,List.flatten_cons,List.length_append,List.length_cons]
    rw[Nat.add_mul]
    omega
  have h3:=h2 r (fun z hz=>h z (by simp[hz]))
  rw[List.length_cons,Nat.add_mul]
  omega
theorem yll {l:List Int} (h:∀ v∈l,v≤9) (i:Nat):l.getD i default≤9:=by
 rw[List.getD_eq_getElem?_getD]
 cases hg:l[i]? with
 | none=>show(0:Int)≤9;omega
 | some x=>have:=h x (List.mem_of_getElem? hg);simpa only[Option.getD_some]
theorem y1g {l:List Int} (h:∀ v∈l,1≤v∧v≤9) (i:Nat):0≤l.getD i default∧l.getD i default≤9:=by
 rw[List.getD_eq_getElem?_getD]
 cases hg:l[i]? with
 | none=>show(0:Int)≤0∧(0:Int)≤9;omega
 | some x=>have:=h x (List.mem_of_getElem? hg);simp only[Option.getD_some];omega
end Go.Ab

namespace Go.Ab
open Go Go.Proofs
def jl : List (List UInt8) → Nat
 | []=>0
 | x::r=>x.length+jl r
theorem yuh (s : List UInt8) : ∀ r : List (List UInt8), (Lib.joinTail s r).length = jl r + r.length * s.length
 | []=>by simp[Lib.joinTail,jl]
 | x::r=>by
  have ih:=yuh s r
  unfold Lib.joinTail at ih ⊢
  simp only[List.map_cons,List.flatten_cons,List.length_append,List.length_cons,jl,ih,Nat.add_mul]
  omega
theorem ylc (s:List UInt8) (xs:List (List UInt8)):(Lib.join xs s).length≤jl xs+xs.length * s.length:=by
 cases xs with
 | nil=>simp[Lib.join_nil]
 | cons x r=>
  rw[Lib.join_cons,List.length_append,yuh]
  simp only[jl,List.length_cons,Nat.add_mul]
  omega
theorem yzv : ∀ (k n : Nat), n < 10 ^ (k + 1) → (Lib.decDigits n).length ≤ k + 1
 | 0,n,h=>by rw[Lib.decDigits_one (by simpa using h)];simp
 | k+1,n,h=>by
  by_cases h10:n<10
  ·rw[Lib.decDigits_one h10];simp
  ·rw[ylb _ h10,List.length_append,List.length_singleton]
   have:=yzv k (n / 10) (by rw[Nat.div_lt_iff_lt_mul (by decide)];rwa [Nat.pow_succ]at h)
   omega
theorem yge (n:Int) (k:Nat) (h0:0≤n) (h:n<((10 ^ (k+1):Nat):Int)):(Lib.itoa n).length≤k+1:=by
 rw[yqq (by omega)]
 exact yzv k _ (by omega)
theorem y3u {α:Type} (c:UInt8) (d:α) (f:α→List UInt8) (x:α) (r:List α):(List.range' 1 r.length).flatMap (fun j=>c::f ((x::r).getD j d))=Lib.joinTail [c] (r.map f):=by
 unfold Lib.joinTail
 rw[List.map_map, ← List.flatMap_def]
 have h:(List.range' 1 r.length).flatMap (fun j=>c::f ((x::r).getD j d))=(List.range' 0 r.length).flatMap (fun j=>c::f (r.getD j d)):=by
  rw[List.flatMap_def,List.flatMap_def]
  congr 1
  apply List.ext_getElem
  ·simp
  ·intro i h1 h2
   simp[List.getElem_range',Nat.add_comm 1 i]
 rw[h]
 rw[List.flatMap_def,List.flatMap_def]
 congr 1
 apply List.ext_getElem
 ·simp
 ·intro i h1 h2
  simp only[List.length_map]at h2
  simp[List.getD_eq_getElem?_getD,h2]
end Go.Ab

namespace Go.Ab
open Go Go.Proofs
def zbc (a0:Int) (a1:Int):Bool:=
 decide (a0≤a1)
namespace N160
theorem DD:DOk Tryz.prog (Go.Ab.DD []):=yd _
theorem den (a0:Int) (a1:Int)  : Den Tryz.prog 160 [.int .i64 a0,.int .i64 a1] (.bool (zbc a0 a1)):=by
 generalize hR:zbc a0 a1=r
 unfold zbc at hR
 refine di Tryz.func160 Tryz.ntmps160 Tryz.results160 ?_
 intro c hL hc hk
 clear hL
 simp only[pars,Nat.zero_add]
 iterate 2 refine rS ?_
 refine AWP.ret ?_
 subst hR
 exact es
end N160
def D_zbc : DF
 | [x0,x1]=>some (.bool (zbc (rdI x0) (rdI x1)),false,[wI .i64 x0,wI .i64 x1])
 | _=>none
theorem yri:OkD Tryz.prog 160 D_zbc:=by unfold D_zbc;exact dk N160.den
end Go.Ab

namespace Go.Ab
open Go Go.Proofs
def zjg (a0:(List UInt8)):Bool:=
 (((a0.length:Int) == 1) && (zkb [87,82,71,89] a0))
namespace N334
theorem DD:DOk Tryz.prog (Go.Ab.DD [(286,dP D_zkb)]):=ya ydr.e <| yd _
theorem dn:type_of% (@D_zkb.eq_1):=by and_intros<;>intros<;>rfl
theorem den (a0:(List UInt8))  : Den Tryz.prog 334 [.str a0] (.bool (zjg a0)):=by
 generalize hR:zjg a0=r
 unfold zjg at hR
 refine di Tryz.func334 Tryz.ntmps334 Tryz.results334 ?_
 intro c hL hc hk
 obtain⟨hL0,_⟩:=hL
 have hw0:a0.length<9223372036854775808:=Nat.lt_succ_of_le hL0
 clear hL0
 simp only[pars,Nat.zero_add]
 iterate 2 refine rS ?_
 refine AWP.ret ?_
 subst hR
 exact es
end N334
def D_zjg : DF
 | [x0]=>some (.bool (zjg (rdS x0)),false,[wS x0])
 | _=>none
theorem y2x:OkD Tryz.prog 334 D_zjg:=by unfold D_zjg;exact dk N334.den
end Go.Ab

namespace Go.Ab
open Go Go.Proofs
def zb (a0:Int) (a1:Int) (a2:Int):Bool:=
 (decide (a1≤a0) && decide (a0≤a2))
namespace N181
theorem DD:DOk Tryz.prog (Go.Ab.DD []):=yd _
theorem den (a0:Int) (a1:Int) (a2:Int)  : Den Tryz.prog 181 [.int .i64 a0,.int .i64 a1,.int .i64 a2] (.bool (zb a0 a1 a2)):=by
 generalize hR:zb a0 a1 a2=r
 unfold zb at hR
 refine di Tryz.func181 Tryz.ntmps181 Tryz.results181 ?_
 intro c hL hc hk
 clear hL
 simp only[pars,Nat.zero_add]
 iterate 2 refine rS ?_
 refine AWP.ret ?_
 subst hR
 exact es
end N181
def D_zb : DF
 | [x0,x1,x2]=>some (.bool (zb (rdI x0) (rdI x1) (rdI x2)),false,[wI .i64 x0,wI .i64 x1,wI .i64 x2])
 | _=>none
theorem yfc:OkD Tryz.prog 181 D_zb:=by unfold D_zb;exact dk N181.den
end Go.Ab

namespace Go.Ab
open Go Go.Proofs
def zvg (a0:Int):Bool:=
 (zb a0 0 359)
namespace N94
theorem DD:DOk Tryz.prog (Go.Ab.DD [(181,dP D_zb)]):=ya yfc.e <| yd _
theorem dn:type_of% (@D_zb.eq_1):=by and_intros<;>intros<;>rfl
theorem ol:type_of% (@zb.eq_1):=@zb.eq_1
theorem den (a0:Int)  : Den Tryz.prog 94 [.int .i64 a0] (.bool (zvg a0)):=by
 generalize hR:zvg a0=r
 unfold zvg at hR
 refine di Tryz.func94 Tryz.ntmps94 Tryz.results94 ?_
 intro c hL hc hk
 clear hL
 simp only[pars,Nat.zero_add]
 iterate 2 refine rS ?_
 refine AWP.ret ?_
 subst hR
 exact es
end N94
def D_zvg : DF
 | [x0]=>some (.bool (zvg (rdI x0)),false,[wI .i64 x0])
 | _=>none
theorem yay:OkD Tryz.prog 94 D_zvg:=by unfold D_zvg;exact dk N94.den
end Go.Ab

namespace Go.Ab
open Go Go.Proofs
def zkg (a0:Sector):Bool:=
 (((zvg a0.From) && (zvg a0.To)) && (zjg a0.Color))
namespace N283
theorem DD:DOk Tryz.prog (Go.Ab.DD [(334,dP D_zjg),(94,dP D_zvg)]):=ya y2x.e <| ya yay.e <| yd _
theorem dn:type_of% (And.intro @D_zjg.eq_1 <| @D_zvg.eq_1):=by and_intros<;>intros<;>rfl
theorem den (a0:Sector)  : Den Tryz.prog 283 [.agg (eSector a0)] (.bool (zkg a0)):=by
 generalize hR:zkg a0=r
 unfold zkg at hR
 refine di Tryz.func283 Tryz.ntmps283 Tryz.results283 ?_
 intro c hL hc hk
 obtain⟨hL0,_⟩:=hL
 have hw0:bwSector a0:=yn a0 hL0
 clear hL0
 simp only[pars,Nat.zero_add]
 iterate 2 refine rS ?_
 refine AWP.ret ?_
 subst hR
 exact es
end N283
def D_zkg : DF
 | [x0]=>some (.bool (zkg (rdG yk x0)),false,[wG eSector yk x0])
 | _=>none
theorem yqy:OkD Tryz.prog 283 D_zkg:=by unfold D_zkg;exact dk N283.den
end Go.Ab

namespace Go.Ab
open Go Go.Proofs
def zpe (a0:Int) (a1:Int):Int:=
 (IntKind.wrap .i64 ((a0.tmod a1)+a1)).tmod a1
namespace N335
theorem DD:DOk Tryz.prog (Go.Ab.DD []):=yd _
theorem den (a0:Int) (a1:Int) (hp0:0<a1):Den Tryz.prog 335 [.int .i64 a0,.int .i64 a1] (.int .i64 (zpe a0 a1)):=by
 generalize hR:zpe a0 a1=r
 unfold zpe at hR
 refine di Tryz.func335 Tryz.ntmps335 Tryz.results335 ?_
 intro c hL hc hk
 clear hL
 simp only[pars,Nat.zero_add]
 iterate 2 refine rS ?_
 refine AWP.ret ?_
 subst hR
 exact es
end N335
def D_zpe : DF
 | [x0,x1]=>some (.int .i64 (zpe (rdI x0) (rdI x1)),false,[wI .i64 x0,wI .i64 x1,0<(rdI x1)])
 | _=>none
theorem yps:OkD Tryz.prog 335 D_zpe:=by unfold D_zpe;exact dk N335.den
end Go.Ab

namespace Go.Ab
open Go Go.Proofs
def zld (a0:Sector):Int:=
 IntKind.wrap .i64 ((zpe (IntKind.wrap .i64 ((IntKind.wrap .i64 (a0.To-a0.From))-1)) 360)+1)
namespace N285
theorem DD:DOk Tryz.prog (Go.Ab.DD [(335,dP D_zpe)]):=ya yps.e <| yd _
theorem dn:type_of% (@D_zpe.eq_1):=by and_intros<;>intros<;>rfl
theorem den (a0:Sector)  : Den Tryz.prog 285 [.agg (eSector a0)] (.int .i64 (zld a0)):=by
 generalize hR:zld a0=r
 unfold zld at hR
 refine di Tryz.func285 Tryz.ntmps285 Tryz.results285 ?_
 intro c hL hc hk
 obtain⟨hL0,_⟩:=hL
 have hw0:bwSector a0:=yn a0 hL0
 clear hL0
 simp only[pars,Nat.zero_add]
 iterate 2 refine rS ?_
 refine AWP.ret ?_
 subst hR
 exact es
end N285
def D_zld : DF
 | [x0]=>some (.int .i64 (zld (rdG yk x0)),false,[wG eSector yk x0])
 | _=>none
theorem yit:OkD Tryz.prog 285 D_zld:=by unfold D_zld;exact dk N285.den
end Go.Ab

namespace Go.Ab
open Go Go.Proofs
def zff (a0:Sector) (a1:Int):Bool:=
 decide ((zpe (IntKind.wrap .i64 (a1-a0.From)) 360)<(zld a0))
namespace N284
theorem DD:DOk Tryz.prog (Go.Ab.DD [(285,dP D_zld),(335,dP D_zpe)]):=ya yit.e <| ya yps.e <| yd _
theorem dn:type_of% (And.intro @D_zld.eq_1 <| @D_zpe.eq_1):=by and_intros<;>intros<;>rfl
theorem den (a0:Sector) (a1:Int)  : Den Tryz.prog 284 [.agg (eSector a0),.int .i64 a1] (.bool (zff a0 a1)):=by
 generalize hR:zff a0 a1=r
 unfold zff at hR
 refine di Tryz.func284 Tryz.ntmps284 Tryz.results284 ?_
 intro c hL hc hk
 obtain⟨hL0,hL1,_⟩:=hL
 have hw0:bwSector a0:=yn a0 hL0
 clear hL0 hL1
 simp only[pars,Nat.zero_add]
 refine rS ?_
 refine rD 6 ?_
 refine AWP.ret ?_
 subst hR
 exact es
end N284
def D_zff : DF
 | [x0,x1]=>some (.bool (zff (rdG yk x0) (rdI x1)),false,[wG eSector yk x0,wI .i64 x1])
 | _=>none
theorem y90:OkD Tryz.prog 284 D_zff:=by unfold D_zff;exact dk N284.den
end Go.Ab

namespace Go.Ab
open Go Go.Proofs
def yzn (a0:(List Sector)) (i1:Nat) (s1:Int) (i2:Nat) (s2:Unit):Except (Bool) (Unit):=
 (bif (((i2:Int) != (i1:Int)) && (zff (a0.getD i1 default) ((a0.getD i2 default).From)))then .error false else .ok ())
def ysk (a0:(List Sector)) (i1:Nat) (s1:Int):Except (Bool) (Int):=
 (bif ((!(zkg (a0.getD i1 default))) || (decide (0<(i1:Int)) && decide (((a0.getD i1 default).From)≤((a0.getD ((IntKind.wrap .i64 ((i1:Int)-1)).toNat) default).From))))then .error false else(match yf (yzn a0 i1 s1) (a0.length-0) 0 ()with|.error e=>.error e|.ok s2=>.ok (IntKind.wrap .i64 (s1+(zld (a0.getD i1 default))))))
def zlb (a0:(List Sector)):Bool:=
 (match yf (ysk a0) (a0.length-0) 0 0 with|.error e=>e|.ok s1=>((zbc (a0.length:Int) 12) && decide (s1≤360)))
namespace N215
theorem DD:DOk Tryz.prog (Go.Ab.DD [(160,dP D_zbc),(283,dP D_zkg),(284,dP D_zff),(285,dP D_zld)]):=ya yri.e <| ya yqy.e <| ya y90.e <| ya yit.e <| yd _
theorem dn:type_of% (And.intro @D_zbc.eq_1 <| And.intro @D_zkg.eq_1 <| And.intro @D_zff.eq_1 <| @D_zld.eq_1):=by and_intros<;>intros<;>rfl
theorem den (a0:(List Sector))  : Den Tryz.prog 215 [encL 3 eSector a0] (.bool (zlb a0)):=by
 generalize hR:zlb a0=r
 unfold zlb at hR
 refine di Tryz.func215 Tryz.ntmps215 Tryz.results215 ?_
 intro c hL hc hk
 obtain⟨hL0,_⟩:=hL
 have hw0:a0.length<9223372036854775808:=Nat.lt_succ_of_le (ye hL0).1
 have hw1:∀ v∈a0,bwSector v:=fun v hv=>yn v ((ye hL0).2 v hv)
 clear hL0
 simp only[pars,Nat.zero_add]
 iterate 3 refine rS ?_
 refine AWP.block ?_
 generalize hz1:yf (ysk a0) (a0.length-0) 0 0=z1 at hR
 refine AWP.range (ysk a0) (fun i1 s1=>⟨[(0,encL 3 eSector a0),(3,.int .i64 s1),(8,encL 3 eSector a0),(9,.int .i64 (a0.length:Int)),(10,.int .i64 (i1:Int))],[]⟩) (fun i1 s1=>True) (a0.length) 0 0 [] hz1 ot wt sm ?_
 clear hz1
 intro i1 s1 hi1 hW1 hz1
 refine rS ?_
 refine AWP.seq ?_
 refine AWP.cond rfl (fun hb => ?_) (fun hb => ?_)
 ·have hlt1:i1<a0.length:=ot
  rw[yh hlt1]at hz1;simp only[ysk]at hz1
  refine rS ?_
  refine rD 18 ?_
  refine AWP.cond rfl (fun hb => ?_) (fun hb => ?_)
  ·simp only[hb,cond_true]at hz1
   refine rS ?_
   refine AWP.ret ?_
   subst hz1
   dsimp only at hR
   subst hR
   exact es
  ·simp only[hb,cond_false]at hz1
   refine rS ?_
   refine AWP.block ?_
   generalize hz2:yf (yzn a0 i1 s1) (a0.length-0) 0 ()=z2 at hz1
   refine AWP.range (yzn a0 i1 s1) (fun i2 s2=>⟨[(0,encL 3 eSector a0),(3,.int .i64 s1),(4,.int .i64 (i1:Int)),(5,.ptr 0 0),(8,encL 3 eSector a0),(9,.int .i64 (a0.length:Int)),(10,.int .i64 (i1:Int)),(33,encL 3 eSector a0),(34,.int .i64 (a0.length:Int)),(35,.int .i64 (i2:Int))],[.box [.int .i64 ((a0.getD i1 default).From),.int .i64 ((a0.getD i1 default).To),.str ((a0.getD i1 default).Color)]]⟩) (fun i2 s2=>True) (a0.length) 0 () [0] hz2 ot wt sm ?_
   clear hz2
   intro i2 s2 hi2 hW2 hz2
   refine rS ?_
   refine AWP.seq ?_
   refine AWP.cond rfl (fun hb => ?_) (fun hb => ?_)
   ·have hlt2:i2<a0.length:=ot
    rw[yh hlt2]at hz2;simp only[yzn]at hz2
    iterate 2 refine rS ?_
    refine AWP.cond rfl (fun hb => ?_) (fun hb => ?_)
    ·simp only[hb,cond_true]at hz2
     refine rS ?_
     refine AWP.ret ?_
     subst hz2
     dsimp only at hz1
     subst hz1
     dsimp only at hR
     subst hR
     exact es
    ·simp only[hb,cond_false]at hz2
     refine rS ?_
     exact⟨_,[0],hlt2,wt,hz2,sm⟩
   ·obtain rfl:i2=a0.length:=ot
    rw[yi (Nat.le_refl _)]at hz2;subst hz2;dsimp only at hz1
    refine AWP.exit ?_;refine yb ?_
    iterate 2 refine rS ?_
    exact⟨_,[],hlt1,wt,hz1,sm⟩
 ·obtain rfl:i1=a0.length:=ot
  rw[yi (Nat.le_refl _)]at hz1;subst hz1;dsimp only at hR
  refine AWP.exit ?_;refine yb ?_
  refine rS ?_
  refine AWP.ret ?_
  subst hR
  exact es
end N215
def D_zlb : DF
 | [x0]=>some (.bool (zlb (rdL yk x0)),false,[wL 3 eSector yk x0])
 | _=>none
theorem y7s:OkD Tryz.prog 215 D_zlb:=by unfold D_zlb;exact dk N215.den
end Go.Ab

namespace Go.Ab
open Go Go.Proofs
def zbg (a0:Int):Bool:=
 (zb a0 1 9)
namespace N84
theorem DD:DOk Tryz.prog (Go.Ab.DD [(181,dP D_zb)]):=ya yfc.e <| yd _
theorem dn:type_of% (@D_zb.eq_1):=by and_intros<;>intros<;>rfl
theorem ol:type_of% (@zb.eq_1):=@zb.eq_1
theorem den (a0:Int)  : Den Tryz.prog 84 [.int .i64 a0] (.bool (zbg a0)):=by
 generalize hR:zbg a0=r
 unfold zbg at hR
 refine di Tryz.func84 Tryz.ntmps84 Tryz.results84 ?_
 intro c hL hc hk
 clear hL
 simp only[pars,Nat.zero_add]
 iterate 2 refine rS ?_
 refine AWP.ret ?_
 subst hR
 exact es
end N84
def D_zbg : DF
 | [x0]=>some (.bool (zbg (rdI x0)),false,[wI .i64 x0])
 | _=>none
theorem yrt:OkD Tryz.prog 84 D_zbg:=by unfold D_zbg;exact dk N84.den
end Go.Ab

namespace Go.Ab
open Go Go.Proofs
def zgf (a0:Int) (a1:Int):Bool:=
 (decide (0≤a0) && decide (a0<a1))
namespace N188
theorem DD:DOk Tryz.prog (Go.Ab.DD []):=yd _
theorem den (a0:Int) (a1:Int)  : Den Tryz.prog 188 [.int .i64 a0,.int .i64 a1] (.bool (zgf a0 a1)):=by
 generalize hR:zgf a0 a1=r
 unfold zgf at hR
 refine di Tryz.func188 Tryz.ntmps188 Tryz.results188 ?_
 intro c hL hc hk
 clear hL
 simp only[pars,Nat.zero_add]
 iterate 2 refine rS ?_
 refine AWP.ret ?_
 subst hR
 exact es
end N188
def D_zgf : DF
 | [x0,x1]=>some (.bool (zgf (rdI x0) (rdI x1)),false,[wI .i64 x0,wI .i64 x1])
 | _=>none
theorem yxz:OkD Tryz.prog 188 D_zgf:=by unfold D_zgf;exact dk N188.den
end Go.Ab

namespace Go.Ab
open Go Go.Proofs
def zu (a0:Int) (a1:(List (List UInt8))):(List UInt8):=
 (bif (!(zgf a0 (a1.length:Int)))then[]else(a1.getD ((a0).toNat) default))
namespace N90
theorem DD:DOk Tryz.prog (Go.Ab.DD [(188,dP D_zgf)]):=ya yxz.e <| yd _
theorem dn:type_of% (@D_zgf.eq_1):=by and_intros<;>intros<;>rfl
theorem ol:type_of% (@zgf.eq_1):=@zgf.eq_1
theorem den (a0:Int) (a1:(List (List UInt8)))  : Den Tryz.prog 90 [.int .i64 a0,encL 1 eS a1] (.str (zu a0 a1)):=by
 generalize hR:zu a0 a1=r
 unfold zu at hR
 refine di Tryz.func90 Tryz.ntmps90 Tryz.results90 ?_
 intro c hL hc hk
 obtain⟨hL0,hL1,_⟩:=hL
 have hw0:a1.length<9223372036854775808:=Nat.lt_succ_of_le (ye hL1).1
 have hw1:∀ v∈a1,bwS v:=fun v hv=>yaw v ((ye hL1).2 v hv)
 clear hL0 hL1
 simp only[pars,Nat.zero_add]
 iterate 2 refine rS ?_
 refine AWP.cond rfl (fun hb => ?_) (fun hb => ?_)
 ·replace hR:=ct hR
  refine rS ?_
  refine AWP.ret ?_
  subst hR
  exact es
 ·replace hR:=cf hR
  refine rS ?_
  refine AWP.ret ?_
  subst hR
  exact es
end N90
def D_zu : DF
 | [x0,x1]=>some (.str (zu (rdI x0) (rdL dS x1)),false,[wI .i64 x0,wL 1 eS dS x1])
 | _=>none
theorem ygh:OkD Tryz.prog 90 D_zu:=by unfold D_zu;exact dk N90.den
end Go.Ab

namespace Go.Ab
open Go Go.Proofs
def zcg (a0:Int):(List UInt8):=
 (zu a0 ([[],[82],[71],[66,89],[66,89,66],[89,66],[89,66,89],[66,82,66],[82,87],[89]]:List (List UInt8)))
namespace N85
theorem DD:DOk Tryz.prog (Go.Ab.DD [(90,dP D_zu)]):=ya ygh.e <| yd _
theorem dn:type_of% (@D_zu.eq_1):=by and_intros<;>intros<;>rfl
theorem lx {p:Prop} (h:p:=by(exact lxx);first|done|fail):p:=h
theorem den (a0:Int)  : Den Tryz.prog 85 [.int .i64 a0] (.str (zcg a0)):=by
 generalize hR:zcg a0=r
 unfold zcg at hR
 refine di Tryz.func85 Tryz.ntmps85 Tryz.results85 ?_
 intro c hL hc hk
 clear hL
 simp only[pars,Nat.zero_add]
 iterate 2 refine rS ?_
 refine AWP.ret ?_
 subst hR
 exact es
end N85
def D_zcg : DF
 | [x0]=>some (.str (zcg (rdI x0)),false,[wI .i64 x0])
 | _=>none
theorem yat:OkD Tryz.prog 85 D_zcg:=by unfold D_zcg;exact dk N85.den
end Go.Ab

namespace Go.Ab
open Go Go.Proofs
theorem yjt {P:List UInt8→Prop} (n:Int) (l:List (List UInt8)) (h0:P []) (h:∀ y∈l,P y):P (zu n l):=by
 unfold zu
 cases hb:zgf n (l.length:Int)with
 | false=>exact h0
 | true=>
  simp only[Bool.not_true,cond_false]
  rw[List.getD_eq_getElem?_getD]
  by_cases hi:n.toNat<l.length
  ·rw[List.getElem?_eq_getElem hi];exact h _ (List.getElem_mem hi)
  ·rw[List.getElem?_eq_none (by omega)];exact h0
end Go.Ab

namespace Go.Ab
open Go Go.Proofs
def zsd (a0:Int):(List (List UInt8)):=
 (zch (zu a0 ([[],[99,97,110,32,112,105,108,108,97,114,32,115,112,97,114],[99,111,110,101,32,112,105,108,108,97,114,32,115,112,97,114],[112,105,108,108,97,114,32,115,112,97,114],[112,105,108,108,97,114,32,115,112,97,114],[112,105,108,108,97,114,32,115,112,97,114],[112,105,108,108,97,114,32,115,112,97,114],[112,105,108,108,97,114,32,115,112,97,114],[115,112,104,101,114,101,32,112,105,108,108,97,114,32,115,112,97,114],[99,97,110,32,99,111,110,101,32,112,105,108,108,97,114,32,115,112,97,114,32,115,112,104,101,114,101]]:List (List UInt8))))
namespace N87
theorem DD:DOk Tryz.prog (Go.Ab.DD [(183,dP D_zch),(90,dP D_zu)]):=ya yq1.e <| ya ygh.e <| yd _
theorem dn:type_of% (And.intro @D_zch.eq_1 <| @D_zu.eq_1):=by and_intros<;>intros<;>rfl
theorem o0 {p:Prop} (h:p:=by(first|(and_intros<;>first|exact yjt (P:=fun y=>y.length≤1048576) _ _ (by simp) (by simp)|exact yjt (P:=fun y=>∀ x∈y,x.toNat<128) _ _ (by simp) (by simp)));first|done|fail):p:=h
theorem lx {p:Prop} (h:p:=by(exact lxx);first|done|fail):p:=h
theorem den (a0:Int)  : Den Tryz.prog 87 [.int .i64 a0] (ownL 9 1 eS (zsd a0)):=by
 generalize hR:zsd a0=r
 unfold zsd at hR
 refine di Tryz.func87 Tryz.ntmps87 Tryz.results87 ?_
 intro c hL hc hk
 clear hL
 simp only[pars,Nat.zero_add]
 iterate 2 refine rS ?_
 refine AWP.ret ?_
 subst hR
 exact es
end N87
def D_zsd : DF
 | [x0]=>some (ownL 9 1 eS (zsd (rdI x0)),false,[wI .i64 x0])
 | _=>none
def Dz_zsd : DF
 | [x0]=>some (ownL 9 1 eS (zsd (rdI x0)),true,[wI .i64 x0])
 | _=>none
theorem y3y:OkD Tryz.prog 87 D_zsd:=by unfold D_zsd;exact dk N87.den
theorem yrx:OkD Tryz.prog 87 Dz_zsd:=by unfold Dz_zsd;exact dk N87.den
end Go.Ab

namespace Go.Ab
open Go Go.Proofs
def zdg (a0:Int):(List UInt8):=
 (zu a0 ([[],[99,97,110],[99,111,110,101],[117,112],[98,97,115,101],[100,111,119,110],[112,111,105,110,116],[98,97,108,108,115],[98,97,108,108],[99,114,111,115,115]]:List (List UInt8)))
namespace N88
theorem DD:DOk Tryz.prog (Go.Ab.DD [(90,dP D_zu)]):=ya ygh.e <| yd _
theorem dn:type_of% (@D_zu.eq_1):=by and_intros<;>intros<;>rfl
theorem lx {p:Prop} (h:p:=by(exact lxx);first|done|fail):p:=h
theorem den (a0:Int)  : Den Tryz.prog 88 [.int .i64 a0] (.str (zdg a0)):=by
 generalize hR:zdg a0=r
 unfold zdg at hR
 refine di Tryz.func88 Tryz.ntmps88 Tryz.results88 ?_
 intro c hL hc hk
 clear hL
 simp only[pars,Nat.zero_add]
 iterate 2 refine rS ?_
 refine AWP.ret ?_
 subst hR
 exact es
end N88
def D_zdg : DF
 | [x0]=>some (.str (zdg (rdI x0)),false,[wI .i64 x0])
 | _=>none
theorem yfr:OkD Tryz.prog 88 D_zdg:=by unfold D_zdg;exact dk N88.den
end Go.Ab

namespace Go.Ab
open Go Go.Proofs
def zae (a0:Mark):Bool:=
 (bif (a0.Kind == 0 && (a0.Colors == [] && (a0.Shape == [] && a0.Topmark == [])))then true else((((zbg a0.Kind) && (a0.Colors == (zcg a0.Kind))) && (zef (zsd a0.Kind) a0.Shape)) && ((a0.Topmark == []) || (a0.Topmark == (zdg a0.Kind)))))
namespace N17
theorem DD:DOk Tryz.prog (Go.Ab.DD [(84,dP D_zbg),(85,dP D_zcg),(86,dP D_zef),(87,dP D_zsd),(88,dP D_zdg)]):=ya yrt.e <| ya yat.e <| ya ypt.e <| ya y3y.e <| ya yfr.e <| yd _
theorem DZ:DOk Tryz.prog (Go.Ab.DD [(84,dP D_zbg),(85,dP D_zcg),(86,dP D_zef),(87,dP Dz_zsd),(88,dP D_zdg)]):=ya yrt.e <| ya yat.e <| ya ypt.e <| ya yrx.e <| ya yfr.e <| yd _
theorem dn:type_of% (And.intro @D_zbg.eq_1 <| And.intro @D_zcg.eq_1 <| And.intro @D_zef.eq_1 <| And.intro @D_zsd.eq_1 <| And.intro @D_zdg.eq_1 <| @Dz_zsd.eq_1):=by and_intros<;>intros<;>rfl
theorem den (a0:Mark) (hb0:bdMark a0):Den Tryz.prog 17 [.agg (eMark a0)] (.bool (zae a0)):=by
 generalize hR:zae a0=r
 unfold zae at hR
 refine di Tryz.func17 Tryz.ntmps17 Tryz.results17 ?_
 intro c hL hc hk
 obtain⟨hL0,_⟩:=hL
 have hw0:bwMark a0:=y2b a0 hL0
 clear hL0
 simp only[pars,Nat.zero_add]
 iterate 2 refine rS ?_
 refine AWP.cond rfl (fun hb => ?_) (fun hb => ?_)
 ·replace hR:=ct hR
  refine rS ?_
  refine AWP.ret ?_
  subst hR
  exact es
 ·replace hR:=cf hR
  refine rZ 32 ?_
  refine AWP.ret ?_
  subst hR
  exact es
end N17
def D_zae : DF
 | [x0]=>some (.bool (zae (rdG ync x0)),false,[wG eMark ync x0,bdMark (rdG ync x0)])
 | _=>none
theorem ycs:OkD Tryz.prog 17 D_zae:=by unfold D_zae;exact dk N17.den
end Go.Ab

namespace Go.Ab
open Go Go.Proofs
def zwg (a0:Int):Bool:=
 (decide (48≤a0) && decide (a0≤57))
namespace N282
theorem DD:DOk Tryz.prog (Go.Ab.DD []):=yd _
theorem den (a0:Int)  : Den Tryz.prog 282 [.int .u8 a0] (.bool (zwg a0)):=by
 generalize hR:zwg a0=r
 unfold zwg at hR
 refine di Tryz.func282 Tryz.ntmps282 Tryz.results282 ?_
 intro c hL hc hk
 clear hL
 simp only[pars,Nat.zero_add]
 iterate 2 refine rS ?_
 refine AWP.ret ?_
 subst hR
 exact es
end N282
def D_zwg : DF
 | [x0]=>some (.bool (zwg (rdI x0)),false,[wI .u8 x0])
 | _=>none
theorem yf0:OkD Tryz.prog 282 D_zwg:=by unfold D_zwg;exact dk N282.den
end Go.Ab

namespace Go.Ab
open Go Go.Proofs
def ygt (a0:(List UInt8)) (i1:Nat) (s1:Unit):Except (Bool) (Unit):=
 (bif ((!(decide (97≤((a0.getD i1 0).toNat:Int)) && decide (((a0.getD i1 0).toNat:Int)≤122))) && (((i1:Int) == 0) || (!(zwg ((a0.getD i1 0).toNat:Int)))))then .error false else .ok ())
def zbe (a0:(List UInt8)):Bool:=
 (match yf (ygt a0) (a0.length-0) 0 ()with|.error e=>e|.ok s1=>((a0 != []) && (zbc (a0.length:Int) 10)))
namespace N210
theorem DD:DOk Tryz.prog (Go.Ab.DD [(160,dP D_zbc),(282,dP D_zwg)]):=ya yri.e <| ya yf0.e <| yd _
theorem dn:type_of% (And.intro @D_zbc.eq_1 <| @D_zwg.eq_1):=by and_intros<;>intros<;>rfl
theorem den (a0:(List UInt8))  : Den Tryz.prog 210 [.str a0] (.bool (zbe a0)):=by
 generalize hR:zbe a0=r
 unfold zbe at hR
 refine di Tryz.func210 Tryz.ntmps210 Tryz.results210 ?_
 intro c hL hc hk
 obtain⟨hL0,_⟩:=hL
 have hw0:a0.length<9223372036854775808:=Nat.lt_succ_of_le hL0
 clear hL0
 simp only[pars,Nat.zero_add]
 iterate 2 refine rS ?_
 refine AWP.block ?_
 generalize hz1:yf (ygt a0) (a0.length-0) 0 ()=z1 at hR
 refine AWP.range (ygt a0) (fun i1 s1=>⟨[(0,.str a0),(3,.int .i64 (i1:Int))],[]⟩) (fun i1 s1=>True) (a0.length) 0 () [] hz1 ot wt sm ?_
 clear hz1
 intro i1 s1 hi1 hW1 hz1
 refine rS ?_
 refine AWP.cond rfl (fun hb => ?_) (fun hb => ?_)
 ·have hlt1:i1<a0.length:=ot
  rw[yh hlt1]at hz1;simp only[ygt]at hz1
  iterate 2 refine rS ?_
  refine AWP.cond rfl (fun hb => ?_) (fun hb => ?_)
  ·simp only[hb,cond_true]at hz1
   refine rS ?_
   refine AWP.ret ?_
   subst hz1
   dsimp only at hR
   subst hR
   exact es
  ·simp only[hb,cond_false]at hz1
   refine rS ?_
   exact⟨_,[],hlt1,wt,hz1,sm⟩
 ·obtain rfl:i1=a0.length:=ot
  rw[yi (Nat.le_refl _)]at hz1;subst hz1;dsimp only at hR
  refine AWP.exit ?_;refine yb ?_
  refine rS ?_
  refine AWP.ret ?_
  subst hR
  exact es
end N210
def D_zbe : DF
 | [x0]=>some (.bool (zbe (rdS x0)),false,[wS x0])
 | _=>none
theorem ynz:OkD Tryz.prog 210 D_zbe:=by unfold D_zbe;exact dk N210.den
end Go.Ab

namespace Go.Ab
open Go Go.Proofs
def yco (a0:(List Int)) (i1:Nat) (s1:Int):Except (Bool) (Int):=
 (bif (!(zb (a0.getD i1 default) 1 9))then .error false else .ok (IntKind.wrap .i64 (s1+(a0.getD i1 default))))
def zbd (a0:(List Int)):Bool:=
 (match yf (yco a0) (a0.length-0) 0 0 with|.error e=>e|.ok s1=>(((zbc (a0.length:Int) 4) && decide (s1≤12)) && (!(zfc a0 ([1]:List Int)))))
namespace N266
theorem DD:DOk Tryz.prog (Go.Ab.DD [(160,dP D_zbc),(181,dP D_zb),(93,dP D_zfc)]):=ya yri.e <| ya yfc.e <| ya yqt.e <| yd _
theorem dn:type_of% (And.intro @D_zbc.eq_1 <| And.intro @D_zb.eq_1 <| @D_zfc.eq_1):=by and_intros<;>intros<;>rfl
theorem ol:type_of% (@zb.eq_1):=@zb.eq_1
theorem den (a0:(List Int))  : Den Tryz.prog 266 [encL 1 yp a0] (.bool (zbd a0)):=by
 generalize hR:zbd a0=r
 unfold zbd at hR
 refine di Tryz.func266 Tryz.ntmps266 Tryz.results266 ?_
 intro c hL hc hk
 obtain⟨hL0,_⟩:=hL
 have hw0:a0.length<9223372036854775808:=Nat.lt_succ_of_le (ye hL0).1
 clear hL0
 simp only[pars,Nat.zero_add]
 iterate 3 refine rS ?_
 refine AWP.block ?_
 generalize hz1:yf (yco a0) (a0.length-0) 0 0=z1 at hR
 refine AWP.range (yco a0) (fun i1 s1=>⟨[(0,encL 1 yp a0),(3,.int .i64 s1),(6,encL 1 yp a0),(7,.int .i64 (a0.length:Int)),(8,.int .i64 (i1:Int))],[]⟩) (fun i1 s1=>True) (a0.length) 0 0 [] hz1 ot wt sm ?_
 clear hz1
 intro i1 s1 hi1 hW1 hz1
 refine rS ?_
 refine AWP.seq ?_
 refine AWP.cond rfl (fun hb => ?_) (fun hb => ?_)
 ·have hlt1:i1<a0.length:=ot
  rw[yh hlt1]at hz1;simp only[yco]at hz1
  iterate 2 refine rS ?_
  refine AWP.cond rfl (fun hb => ?_) (fun hb => ?_)
  ·simp only[hb,cond_true]at hz1
   refine rS ?_
   refine AWP.ret ?_
   subst hz1
   dsimp only at hR
   subst hR
   exact es
  ·simp only[hb,cond_false]at hz1
   iterate 2 refine rS ?_
   exact⟨_,[],hlt1,wt,hz1,sm⟩
 ·obtain rfl:i1=a0.length:=ot
  rw[yi (Nat.le_refl _)]at hz1;subst hz1;dsimp only at hR
  refine AWP.exit ?_;refine yb ?_
  refine rS ?_
  refine AWP.ret ?_
  subst hR
  exact es
end N266
def D_zbd : DF
 | [x0]=>some (.bool (zbd (rdL yob x0)),false,[wL 1 yp yob x0])
 | _=>none
theorem ygz:OkD Tryz.prog 266 D_zbd:=by unfold D_zbd;exact dk N266.den
end Go.Ab

namespace Go.Ab
open Go Go.Proofs
def ygg (a0:(List UInt8)) (i1:Nat) (s1:Int):Except (Bool) (Int):=
 (bif decide ((zoe [87,82,71,89] ((a0.getD i1 0).toNat:Int))≤s1)then .error false else .ok (zoe [87,82,71,89] ((a0.getD i1 0).toNat:Int)))
def zmb (a0:(List UInt8)):Bool:=
 (match yf (ygg a0) (a0.length-0) 0 (-1)with|.error e=>e|.ok s1=>(zb (a0.length:Int) 1 3))
namespace N189
theorem DD:DOk Tryz.prog (Go.Ab.DD [(181,dP D_zb),(265,dP D_zoe)]):=ya yfc.e <| ya yvy.e <| yd _
theorem dn:type_of% (And.intro @D_zb.eq_1 <| @D_zoe.eq_1):=by and_intros<;>intros<;>rfl
theorem ol:type_of% (@zb.eq_1):=@zb.eq_1
theorem den (a0:(List UInt8))  : Den Tryz.prog 189 [.str a0] (.bool (zmb a0)):=by
 generalize hR:zmb a0=r
 unfold zmb at hR
 refine di Tryz.func189 Tryz.ntmps189 Tryz.results189 ?_
 intro c hL hc hk
 obtain⟨hL0,_⟩:=hL
 have hw0:a0.length<9223372036854775808:=Nat.lt_succ_of_le hL0
 clear hL0
 simp only[pars,Nat.zero_add]
 iterate 3 refine rS ?_
 refine AWP.block ?_
 generalize hz1:yf (ygg a0) (a0.length-0) 0 (-1)=z1 at hR
 refine AWP.range (ygg a0) (fun i1 s1=>⟨[(0,.str a0),(3,.int .i64 s1),(4,.int .i64 (i1:Int))],[]⟩) (fun i1 s1=>True) (a0.length) 0 (-1) [] hz1 ot wt sm ?_
 clear hz1
 intro i1 s1 hi1 hW1 hz1
 refine rS ?_
 refine AWP.cond rfl (fun hb => ?_) (fun hb => ?_)
 ·have hlt1:i1<a0.length:=ot
  rw[yh hlt1]at hz1;simp only[ygg]at hz1
  iterate 2 refine rS ?_
  refine AWP.cond rfl (fun hb => ?_) (fun hb => ?_)
  ·simp only[hb,cond_true]at hz1
   refine rS ?_
   refine AWP.ret ?_
   subst hz1
   dsimp only at hR
   subst hR
   exact es
  ·simp only[hb,cond_false]at hz1
   iterate 2 refine rS ?_
   exact⟨_,[],hlt1,wt,hz1,sm⟩
 ·obtain rfl:i1=a0.length:=ot
  rw[yi (Nat.le_refl _)]at hz1;subst hz1;dsimp only at hR
  refine AWP.exit ?_;refine yb ?_
  refine rS ?_
  refine AWP.ret ?_
  subst hR
  exact es
end N189
def D_zmb : DF
 | [x0]=>some (.bool (zmb (rdS x0)),false,[wS x0])
 | _=>none
theorem y5x:OkD Tryz.prog 189 D_zmb:=by unfold D_zmb;exact dk N189.den
end Go.Ab

namespace Go.Ab
open Go Go.Proofs
def zib (a0:(List UInt8)):(List UInt8):=
 (bif ((((a0.length:Int) != 1) || Op.bytesLess a0 [65]) || !(Op.bytesLess a0 [90] || a0 == [90]))then[]else([[46,45],[45,46,46,46],[45,46,45,46],[45,46,46],[46],[46,46,45,46],[45,45,46],[46,46,46,46],[46,46],[46,45,45,45],[45,46,45],[46,45,46,46],[45,45],[45,46],[45,45,45],[46,45,45,46],[45,45,46,45],[46,45,46],[46,46,46],[45],[46,46,45],[46,46,46,45],[46,45,45],[45,46,46,45],[45,46,45,45],[45,45,46,46]]:List (List UInt8)).getD ((IntKind.wrap .u8 (((a0.getD 0 0).toNat:Int)-65)).toNat) [])
namespace N267
theorem DD:DOk Tryz.prog (Go.Ab.DD []):=yd _
theorem o0 {p:Prop} (h:p:=by(first|(simp only[Bool.or_eq_false_iff,Bool.not_eq_false',Bool.or_eq_true,bne_eq_false_iff_eq]at hb;have h9:=yny a0 hb;have h8:=hb.1.1;and_intros<;>omega));first|done|fail):p:=h
theorem den (a0:(List UInt8))  : Den Tryz.prog 267 [.str a0] (.str (zib a0)):=by
 generalize hR:zib a0=r
 unfold zib at hR
 refine di Tryz.func267 Tryz.ntmps267 Tryz.results267 ?_
 intro c hL hc hk
 obtain⟨hL0,_⟩:=hL
 have hw0:a0.length<9223372036854775808:=Nat.lt_succ_of_le hL0
 clear hL0
 simp only[pars,Nat.zero_add]
 iterate 2 refine rS ?_
 refine AWP.cond rfl (fun hb => ?_) (fun hb => ?_)
 ·replace hR:=ct hR
  refine rS ?_
  refine AWP.ret ?_
  subst hR
  exact es
 ·replace hR:=cf hR
  refine rS ?_
  refine AWP.ret ?_
  subst hR
  exact es
end N267
def D_zib : DF
 | [x0]=>some (.str (zib (rdS x0)),false,[wS x0])
 | _=>none
theorem yor:OkD Tryz.prog 267 D_zib:=by unfold D_zib;exact dk N267.den
end Go.Ab

namespace Go.Ab
open Go Go.Proofs
def zz (a0:Character):Bool:=
 (bif (a0.Kind == 1)then(((a0.Group.length:Int) == 0) && (a0.Letter == []))else(bif (a0.Kind == 3)then(((a0.Group.length:Int) == 0) && (a0.Letter == []))else(bif (a0.Kind == 2)then((a0.Letter == []) && (zbd a0.Group))else(bif (a0.Kind == 4)then((a0.Letter == []) && (zbd a0.Group))else(bif (a0.Kind == 5)then((a0.Letter == []) && (zbd a0.Group))else(bif (a0.Kind == 6)then(bif (a0.Letter == [])then(((a0.Group.length:Int) == 0) || (((a0.Group.length:Int) == 1) && (zb (a0.Group.getD 0 default) 2 9)))else((a0.Letter == [76]) && (zfc a0.Group ([6]:List Int))))else(bif (a0.Kind == 7)then(bif (a0.Letter == [])then(((a0.Group.length:Int) == 0) || (((a0.Group.length:Int) == 1) && (zb (a0.Group.getD 0 default) 2 9)))else((a0.Letter == [76]) && (zfc a0.Group ([6]:List Int))))else(bif (a0.Kind == 8)then(((zib a0.Letter) != []) && ((a0.Group.length:Int) == 0))else false))))))))
namespace N190
theorem DD:DOk Tryz.prog (Go.Ab.DD [(181,dP D_zb),(266,dP D_zbd),(267,dP D_zib),(93,dP D_zfc)]):=ya yfc.e <| ya ygz.e <| ya yor.e <| ya yqt.e <| yd _
theorem dn:type_of% (And.intro @D_zb.eq_1 <| And.intro @D_zbd.eq_1 <| And.intro @D_zib.eq_1 <| @D_zfc.eq_1):=by and_intros<;>intros<;>rfl
theorem ol:type_of% (@zb.eq_1):=@zb.eq_1
theorem den (a0:Character)  : Den Tryz.prog 190 [.agg (eCharacter a0)] (.bool (zz a0)):=by
 generalize hR:zz a0=r
 unfold zz at hR
 refine di Tryz.func190 Tryz.ntmps190 Tryz.results190 ?_
 intro c hL hc hk
 obtain⟨hL0,_⟩:=hL
 have hw0:bwCharacter a0:=ym a0 hL0
 clear hL0
 simp only[pars,Nat.zero_add]
 iterate 3 refine rS ?_
 refine AWP.cond rfl (fun hb => ?_) (fun hb => ?_)
 ·replace hR:=ct hR
  refine AWP.skip ?_
  refine AWP.cond rfl (fun hb => ?_) (fun hb => ?_)
  ·refine rS ?_
   refine AWP.ret ?_
   subst hR
   exact es
  ·exfalso;simp_all
 ·replace hR:=cf hR
  refine rS ?_
  refine AWP.cond rfl (fun hb => ?_) (fun hb => ?_)
  ·replace hR:=ct hR
   refine rS ?_
   refine AWP.ret ?_
   subst hR
   exact es
  ·replace hR:=cf hR
   refine rS ?_
   refine AWP.cond rfl (fun hb => ?_) (fun hb => ?_)
   ·replace hR:=ct hR
    refine AWP.skip ?_
    refine AWP.cond rfl (fun hb => ?_) (fun hb => ?_)
    ·refine rS ?_
     refine AWP.ret ?_
     subst hR
     exact es
    ·exfalso;simp_all
   ·replace hR:=cf hR
    refine rS ?_
    refine AWP.cond rfl (fun hb => ?_) (fun hb => ?_)
    ·replace hR:=ct hR
     refine AWP.skip ?_
     refine AWP.cond rfl (fun hb => ?_) (fun hb => ?_)
     ·refine rS ?_
      refine AWP.ret ?_
      subst hR
      exact es
     ·exfalso;simp_all
    ·replace hR:=cf hR
     refine rS ?_
     refine AWP.cond rfl (fun hb => ?_) (fun hb => ?_)
     ·replace hR:=ct hR
      refine rS ?_
      refine AWP.ret ?_
      subst hR
      exact es
     ·replace hR:=cf hR
      refine rS ?_
      refine AWP.cond rfl (fun hb => ?_) (fun hb => ?_)
      ·replace hR:=ct hR
       refine AWP.skip ?_
       refine AWP.cond rfl (fun hb => ?_) (fun hb => ?_)
       ·refine rS ?_
        refine AWP.cond rfl (fun hb => ?_) (fun hb => ?_)
        ·replace hR:=ct hR
         refine rS ?_
         refine AWP.ret ?_
         subst hR
         exact es
        ·replace hR:=cf hR
         refine rS ?_
         refine AWP.ret ?_
         subst hR
         exact es
       ·exfalso;simp_all
      ·replace hR:=cf hR
       refine rS ?_
       refine AWP.cond rfl (fun hb => ?_) (fun hb => ?_)
       ·replace hR:=ct hR
        refine rS ?_
        refine AWP.cond rfl (fun hb => ?_) (fun hb => ?_)
        ·replace hR:=ct hR
         refine rS ?_
         refine AWP.ret ?_
         subst hR
         exact es
        ·replace hR:=cf hR
         refine rS ?_
         refine AWP.ret ?_
         subst hR
         exact es
       ·replace hR:=cf hR
        refine rS ?_
        refine AWP.cond rfl (fun hb => ?_) (fun hb => ?_)
        ·replace hR:=ct hR
         refine rS ?_
         refine AWP.ret ?_
         subst hR
         exact es
        ·replace hR:=cf hR
         refine rS ?_
         refine AWP.ret ?_
         subst hR
         exact es
end N190
def D_zz : DF
 | [x0]=>some (.bool (zz (rdG yc x0)),false,[wG eCharacter yc x0])
 | _=>none
theorem yz3:OkD Tryz.prog 190 D_zz:=by unfold D_zz;exact dk N190.den
end Go.Ab

namespace Go.Ab
open Go Go.Proofs
theorem y8h (a:List UInt8):zib a=if a.length=1∧65≤(a.getD 0 0).toNat∧(a.getD 0 0).toNat≤90 then yvc.getD ((a.getD 0 0).toNat-65) []else[]:=by
 unfold zib
 by_cases h1:a.length=1
 ·have c1:((a.length:Int) != 1)=false:=by rw[h1];rfl
  rw[c1,yag a 65 h1,yag a 90 h1,ydv a 90 h1]
  have e1:(65:UInt8).toNat=65:=rfl
  have e2:(90:UInt8).toNat=90:=rfl
  rw[e1,e2]
  by_cases h2:65≤(a.getD 0 0).toNat∧(a.getD 0 0).toNat≤90
  ·rw[if_pos ⟨h1,h2⟩,decide_eq_false (by omega)]
   have c2:(decide ((a.getD 0 0).toNat<90) || decide ((a.getD 0 0).toNat=90))=true:=by
    rw[Bool.or_eq_true,decide_eq_true_eq,decide_eq_true_eq];omega
   rw[c2]
   simp only[Bool.or_self,Bool.not_true,cond_false]
   rw[y0i _ (by omega) (by omega),show((((a.getD 0 0).toNat:Int)-65).toNat)=(a.getD 0 0).toNat-65 by omega]
   rfl
  ·rw[if_neg (fun h=>h2 h.2)]
   by_cases h3:(a.getD 0 0).toNat<65
   ·rw[decide_eq_true h3];rfl
   ·have c2:(decide ((a.getD 0 0).toNat<90) || decide ((a.getD 0 0).toNat=90))=false:=by
     rw[decide_eq_false (by omega),decide_eq_false (by omega)];rfl
    rw[c2,decide_eq_false h3];rfl
 ·have c1:((a.length:Int) != 1)=true:=by rw[bne_iff_ne];omega
  rw[c1,if_neg (fun h=>h1 h.1)]
  rfl
theorem yix (a:List UInt8):(zib a).length≤4:=by
 rw[y8h]
 split
 ·exact y4j _
 ·simp
theorem yhq (a:List UInt8):∀ x∈zib a,x.toNat<128:=by
 intro x hx
 rw[y8h]at hx
 split at hx
 ·rw[List.getD_eq_getElem?_getD]at hx
  cases h:yvc[(a.getD 0 0).toNat-65]? with
  | none=>rw[h]at hx;simp at hx
  | some y=>
   rw[h]at hx
   rcases(yhg y (List.mem_of_getElem? h)).2.2 x hx with e|e<;>subst e<;>decide
 ·simp at hx
end Go.Ab

namespace Go.Ab
open Go Go.Proofs
def zdh (a0:Int):Bool:=
 ((a0 == 6) || (a0 == 7))
namespace N268
theorem DD:DOk Tryz.prog (Go.Ab.DD []):=yd _
theorem den (a0:Int)  : Den Tryz.prog 268 [.int .i64 a0] (.bool (zdh a0)):=by
 generalize hR:zdh a0=r
 unfold zdh at hR
 refine di Tryz.func268 Tryz.ntmps268 Tryz.results268 ?_
 intro c hL hc hk
 clear hL
 simp only[pars,Nat.zero_add]
 iterate 2 refine rS ?_
 refine AWP.ret ?_
 subst hR
 exact es
end N268
def D_zdh : DF
 | [x0]=>some (.bool (zdh (rdI x0)),false,[wI .i64 x0])
 | _=>none
theorem y3z:OkD Tryz.prog 268 D_zdh:=by unfold D_zdh;exact dk N268.den
end Go.Ab

namespace Go.Ab
open Go Go.Proofs
def zlc (a0:Character):Bool:=
 ((a0.Kind == 1) || ((zdh a0.Kind) && ((a0.Group.length:Int) == 0)))
namespace N191
theorem DD:DOk Tryz.prog (Go.Ab.DD [(268,dP D_zdh)]):=ya y3z.e <| yd _
theorem dn:type_of% (@D_zdh.eq_1):=by and_intros<;>intros<;>rfl
theorem den (a0:Character)  : Den Tryz.prog 191 [.agg (eCharacter a0)] (.bool (zlc a0)):=by
 generalize hR:zlc a0=r
 unfold zlc at hR
 refine di Tryz.func191 Tryz.ntmps191 Tryz.results191 ?_
 intro c hL hc hk
 obtain⟨hL0,_⟩:=hL
 have hw0:bwCharacter a0:=ym a0 hL0
 clear hL0
 simp only[pars,Nat.zero_add]
 iterate 2 refine rS ?_
 refine AWP.ret ?_
 subst hR
 exact es
end N191
def D_zlc : DF
 | [x0]=>some (.bool (zlc (rdG yc x0)),false,[wG eCharacter yc x0])
 | _=>none
theorem y3s:OkD Tryz.prog 191 D_zlc:=by unfold D_zlc;exact dk N191.den
end Go.Ab

namespace Go.Ab
open Go Go.Proofs
def zj (a0:Int):(Int×Int×Int):=
 (bif (a0 == 2)then(10,10,15)else(bif (a0 == 4)then(5,15,20)else(bif (a0 == 5)then(20,20,25)else(bif (a0 == 6)then(5,5,20)else(bif (a0 == 7)then(2,3,10)else(bif (a0 == 8)then(5,5,30)else(0,0,0)))))))
namespace N269
theorem DD:DOk Tryz.prog (Go.Ab.DD []):=yd _
theorem den (a0:Int)  : Den Tryz.prog 269 [.int .i64 a0] (.tup [.int .i64 ((zj a0).1),.int .i64 ((zj a0).2.1),.int .i64 ((zj a0).2.2)]):=by
 generalize hR:zj a0=r
 unfold zj at hR
 refine di Tryz.func269 Tryz.ntmps269 Tryz.results269 ?_
 intro c hL hc hk
 clear hL
 simp only[pars,Nat.zero_add]
 iterate 3 refine rS ?_
 refine AWP.cond rfl (fun hb => ?_) (fun hb => ?_)
 ·replace hR:=ct hR
  refine rS ?_
  refine AWP.ret ?_
  subst hR
  exact es
 ·replace hR:=cf hR
  refine rS ?_
  refine AWP.cond rfl (fun hb => ?_) (fun hb => ?_)
  ·replace hR:=ct hR
   refine rS ?_
   refine AWP.ret ?_
   subst hR
   exact es
  ·replace hR:=cf hR
   refine rS ?_
   refine AWP.cond rfl (fun hb => ?_) (fun hb => ?_)
   ·replace hR:=ct hR
    refine rS ?_
    refine AWP.ret ?_
    subst hR
    exact es
   ·replace hR:=cf hR
    refine rS ?_
    refine AWP.cond rfl (fun hb => ?_) (fun hb => ?_)
    ·replace hR:=ct hR
     refine rS ?_
     refine AWP.ret ?_
     subst hR
     exact es
    ·replace hR:=cf hR
     refine rS ?_
     refine AWP.cond rfl (fun hb => ?_) (fun hb => ?_)
     ·replace hR:=ct hR
      refine rS ?_
      refine AWP.ret ?_
      subst hR
      exact es
     ·replace hR:=cf hR
      refine rS ?_
      refine AWP.cond rfl (fun hb => ?_) (fun hb => ?_)
      ·replace hR:=ct hR
       refine rS ?_
       refine AWP.ret ?_
       subst hR
       exact es
      ·replace hR:=cf hR
       refine rS ?_
       refine AWP.ret ?_
       subst hR
       exact es
end N269
def D_zj : DF
 | [x0]=>some (.tup [.int .i64 ((zj (rdI x0)).1),.int .i64 ((zj (rdI x0)).2.1),.int .i64 ((zj (rdI x0)).2.2)],false,[wI .i64 x0])
 | _=>none
theorem yow:OkD Tryz.prog 269 D_zj:=by unfold D_zj;exact dk N269.den
end Go.Ab

namespace Go.Ab
open Go Go.Proofs
def yjs (a0:(List Int)) (i1:Nat) (s1:Int):Except (Int) (Int):=
 .ok (IntKind.wrap .i64 (s1+(a0.getD i1 default)))
def zie (a0:(List Int)):Int:=
 (match yf (yjs a0) (a0.length-0) 0 0 with|.error e=>e|.ok s1=>s1)
namespace N270
theorem DD:DOk Tryz.prog (Go.Ab.DD []):=yd _
theorem den (a0:(List Int))  : Den Tryz.prog 270 [encL 1 yp a0] (.int .i64 (zie a0)):=by
 generalize hR:zie a0=r
 unfold zie at hR
 refine di Tryz.func270 Tryz.ntmps270 Tryz.results270 ?_
 intro c hL hc hk
 obtain⟨hL0,_⟩:=hL
 have hw0:a0.length<9223372036854775808:=Nat.lt_succ_of_le (ye hL0).1
 clear hL0
 simp only[pars,Nat.zero_add]
 iterate 3 refine rS ?_
 refine AWP.block ?_
 generalize hz1:yf (yjs a0) (a0.length-0) 0 0=z1 at hR
 refine AWP.range (yjs a0) (fun i1 s1=>⟨[(3,.int .i64 s1),(6,encL 1 yp a0),(7,.int .i64 (a0.length:Int)),(8,.int .i64 (i1:Int))],[]⟩) (fun i1 s1=>True) (a0.length) 0 0 [] hz1 ot wt sm ?_
 clear hz1
 intro i1 s1 hi1 hW1 hz1
 refine rS ?_
 refine AWP.seq ?_
 refine AWP.cond rfl (fun hb => ?_) (fun hb => ?_)
 ·have hlt1:i1<a0.length:=ot
  rw[yh hlt1]at hz1;simp only[yjs]at hz1
  iterate 3 refine rS ?_
  exact⟨_,[],hlt1,wt,hz1,sm⟩
 ·obtain rfl:i1=a0.length:=ot
  rw[yi (Nat.le_refl _)]at hz1;subst hz1;dsimp only at hR
  refine AWP.exit ?_;refine yb ?_
  refine rS ?_
  refine AWP.ret ?_
  subst hR
  exact es
end N270
def D_zie : DF
 | [x0]=>some (.int .i64 (zie (rdL yob x0)),false,[wL 1 yp yob x0])
 | _=>none
theorem yg0:OkD Tryz.prog 270 D_zie:=by unfold D_zie;exact dk N270.den
end Go.Ab
