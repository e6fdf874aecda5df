/- A part of a proof: walks of functions and lemmas of our own. No conditions. -/
import Derived.Test.YthjljhdfdppkoaaGreatDoorNAl
import Derived.Test.YthjljhdfdppkoaaGreatDoorNAo
import Derived.Test.YthjljhdfdppkoaaGreatDoorNAn
import Derived.Lib.Join
set_option linter.unusedSectionVars false
set_option linter.unusedVariables false
set_option linter.unusedSimpArgs false
set_option maxHeartbeats 1000000
namespace Go.Ab
open Go Go.Proofs
def zh (a0:Int):(List UInt8):=
 (zuh a0 10)
namespace N30
theorem DD:DOk Tryz.prog (Go.Ab.DD [(66,dP D_zuh)]):=ya y73.e <| yf _
abbrev dn:=@D_zuh.eq_1
theorem den (a0:Int) (hp0 : -9223372036854775808<=a0) (hp1:a0<=9223372036854775807):Den Tryz.prog 30 [.int .i64 a0] (.str (zh a0)):=by
 generalize hR:zh a0=r;unfold zh at hR;refine di Tryz.func30 Tryz.ntmps30 Tryz.results30 ?_;intro c hL hc hk;clear hL;simp only[pars,Nat.zero_add];iterate 2 refine rS ?_
 refine AWP.ret ?_;subst hR;exact es
end N30
def D_zh : DF
 | [x0]=>some (.str (zh (rdI x0)),false,[wI .i64 x0,-9223372036854775808<=(rdI x0),(rdI x0)<=9223372036854775807])
 | _=>none
theorem yvf:OkD Tryz.prog 30 D_zh:=by unfold D_zh;exact dk N30.den
theorem yw1 (n:Int):(Go.Lib.itoa n).length<=n.natAbs+2:=by
 unfold Go.Lib.itoa;split
 ·have:=ypd n.natAbs
  simp only[List.length_cons];omega
 ·have:=ypd n.toNat
  omega
theorem yw6 (n:Int):zh n=Go.Lib.itoa n:=rfl
theorem yrc (n:Int):(zh n).length<=n.natAbs+2:=yw1 n
theorem yty (n:Int) (h1 : -9223372036854775808<=n) (h2:n<=9223372036854775807):(Lib.itoa n).length<=20:=by
 have h3:(Lib.decDigits n.natAbs).length<=19:=by
  by_cases h:n.natAbs<10
  ·have:=(y5c n.natAbs).2 (by omega);omega
  ·rw[ywb _ h,List.length_append,List.length_singleton]
   have:=(y5c (n.natAbs / 10)).2 (by omega);omega
 by_cases h:n<0
 ·rw[y3c h,List.length_cons];omega
 ·rw[yqf h];omega
theorem y2f (n:Int) (h1 : -9223372036854775808<=n) (h2:n<=9223372036854775807):(zh n).length<=20:=yty n h1 h2
theorem yzn (n:Int):(zh (IntKind.wrap .i64 n)).length<=20:=y2f _ (by rw[IntKind.wrap_i64];omega) (by rw[IntKind.wrap_i64];omega)
theorem yow (n:Int) : -10<n.tmod 10/\n.tmod 10<10:=⟨by have:=Int.lt_tmod_of_pos n (b:=10) (by omega);omega,Int.tmod_lt_of_pos n (by omega)⟩
theorem yuk (s : List UInt8) : ∀ (xs : List (List UInt8)) (m : Nat), (∀ x ∈ xs, x.length <= m) -> (Lib.join xs s).length <= xs.length * (m + s.length)
 | [],m,_=>by simp[Lib.join_nil]
 | x::r,m,h=>by
  rw[Lib.join_cons,List.length_append];have h1:=h x (by simp)
  have h2:∀ r:List (List UInt8),(∀ x∈r,x.length<=m)->(Lib.joinTail s r).length<=r.length * (m+s.length):=by
   intro r
   induction r with
   | nil=>intro _;simp[Lib.joinTail]
   | cons y r ih=>
    intro h;have h3:=ih (fun z hz=>h z (by simp[hz]));have h4:=h y (by simp);unfold Lib.joinTail at h3 ⊢;simp only[List.map_cons,List.flatten_cons,List.length_append,List.length_cons];rw[Nat.add_mul];omega
  have h3:=h2 r (fun z hz=>h z (by simp[hz]));rw[List.length_cons,Nat.add_mul];omega
theorem y6o {l:List Int} (h:∀ v∈l,v<=9) (i:Nat):l.getD i default<=9:=by
 rw[List.getD_eq_getElem?_getD]
 cases hg:l[i]? with
 | none=>show(0:Int)<=9;omega
 | some x=>have:=h x (List.mem_of_getElem? hg);simpa only[Option.getD_some]
theorem ywk {l:List Int} (h:∀ v∈l,1<=v/\v<=9) (i:Nat):0<=l.getD i default/\l.getD i default<=9:=by
 rw[List.getD_eq_getElem?_getD]
 cases hg:l[i]? with
 | none=>show(0:Int)<=0/\(0:Int)<=9;omega
 | some x=>have:=h x (List.mem_of_getElem? hg);simp only[Option.getD_some];omega
def jl : List (List UInt8) -> Nat
 | []=>0
 | x::r=>x.length+jl r
theorem yqj (s : List UInt8) : ∀ r : List (List UInt8), (Lib.joinTail s r).length = jl r + r.length * s.length
 | []=>by simp[Lib.joinTail,jl]
 | x::r=>by
  have ih:=yqj s r;unfold Lib.joinTail at ih ⊢;simp only[List.map_cons,List.flatten_cons,List.length_append,List.length_cons,jl,ih,Nat.add_mul];omega
theorem y3i (s:List UInt8) (xs:List (List UInt8)):(Lib.join xs s).length<=jl xs+xs.length * s.length:=by
 cases xs with
 | nil=>simp[Lib.join_nil]
 | cons x r=>
  rw[Lib.join_cons,List.length_append,yqj];simp only[jl,List.length_cons,Nat.add_mul];omega
theorem yo1 : ∀ (k n : Nat), n < 10 ^ (k + 1) -> (Lib.decDigits n).length <= k + 1
 | 0,n,h=>by rw[Lib.decDigits_one (by simpa using h)];simp
 | k+1,n,h=>by
  by_cases h10:n<10
  ·rw[Lib.decDigits_one h10];simp
  ·rw[ywb _ h10,List.length_append,List.length_singleton]
   have:=yo1 k (n / 10) (by rw[Nat.div_lt_iff_lt_mul (by decide)];rwa [Nat.pow_succ]at h);omega
theorem yae (n:Int) (k:Nat) (h0:0<=n) (h:n<((10 ^ (k+1):Nat):Int)):(Lib.itoa n).length<=k+1:=by
 rw[yqf (by omega)];exact yo1 k _ (by omega)
def ze (a0:Int) (a1:Int) (a2:Int):Bool:=
 (decide (a1<=a0) && decide (a0<=a2))
namespace N63
theorem DD:DOk Tryz.prog (Go.Ab.DD []):=yf _
theorem den (a0:Int) (a1:Int) (a2:Int)  : Den Tryz.prog 63 [.int .i64 a0,.int .i64 a1,.int .i64 a2] (.bool (ze a0 a1 a2)):=by
 generalize hR:ze a0 a1 a2=r;unfold ze at hR;refine di Tryz.func63 Tryz.ntmps63 Tryz.results63 ?_;intro c hL hc hk;clear hL;simp only[pars,Nat.zero_add];iterate 2 refine rS ?_
 refine AWP.ret ?_;subst hR;exact es
end N63
def D_ze : DF
 | [x0,x1,x2]=>some (.bool (ze (rdI x0) (rdI x1) (rdI x2)),false,[wI .i64 x0,wI .i64 x1,wI .i64 x2])
 | _=>none
theorem yfc:OkD Tryz.prog 63 D_ze:=by unfold D_ze;exact dk N63.den
def zlh (a0:Int):Bool:=
 (ze a0 0 359)
namespace N244
theorem DD:DOk Tryz.prog (Go.Ab.DD [(63,dP D_ze)]):=ya yfc.e <| yf _
abbrev dn:=@D_ze.eq_1
abbrev ol:=@ze.eq_1
theorem den (a0:Int)  : Den Tryz.prog 244 [.int .i64 a0] (.bool (zlh a0)):=by
 generalize hR:zlh a0=r;unfold zlh at hR;refine di Tryz.func244 Tryz.ntmps244 Tryz.results244 ?_;intro c hL hc hk;clear hL;simp only[pars,Nat.zero_add];iterate 2 refine rS ?_
 refine AWP.ret ?_;subst hR;exact es
end N244
def D_zlh : DF
 | [x0]=>some (.bool (zlh (rdI x0)),false,[wI .i64 x0])
 | _=>none
theorem yl6:OkD Tryz.prog 244 D_zlh:=by unfold D_zlh;exact dk N244.den
def zzg (a0:(List UInt8)):Bool:=
 (((a0.length:Int) == 1) && (zgc [87,82,71,89] a0))
namespace N245
theorem DD:DOk Tryz.prog (Go.Ab.DD [(204,dP D_zgc)]):=ya yaw.e <| yf _
abbrev dn:=@D_zgc.eq_1
theorem den (a0:(List UInt8))  : Den Tryz.prog 245 [.str a0] (.bool (zzg a0)):=by
 generalize hR:zzg a0=r;unfold zzg at hR;refine di Tryz.func245 Tryz.ntmps245 Tryz.results245 ?_;intro c hL hc hk;obtain⟨hL0,_⟩:=hL;have hw0:a0.length<9223372036854775808:=Nat.lt_succ_of_le hL0;clear hL0;simp only[pars,Nat.zero_add];iterate 2 refine rS ?_
 refine AWP.ret ?_;subst hR;exact es
end N245
def D_zzg : DF
 | [x0]=>some (.bool (zzg (rdS x0)),false,[wS x0])
 | _=>none
theorem yu3:OkD Tryz.prog 245 D_zzg:=by unfold D_zzg;exact dk N245.den
def zah (a0:Sector):Bool:=
 (((zlh a0.From) && (zlh a0.To)) && (zzg a0.Color))
namespace N195
theorem DD:DOk Tryz.prog (Go.Ab.DD [(244,dP D_zlh),(245,dP D_zzg)]):=ya yl6.e <| ya yu3.e <| yf _
abbrev dn:=cj @D_zlh.eq_1 <| @D_zzg.eq_1
theorem den (a0:Sector)  : Den Tryz.prog 195 [.agg (yr a0)] (.bool (zah a0)):=by
 generalize hR:zah a0=r;unfold zah at hR;refine di Tryz.func195 Tryz.ntmps195 Tryz.results195 ?_;intro c hL hc hk;obtain⟨hL0,_⟩:=hL;have hw0:bwSector a0:=y8 a0 hL0;clear hL0;simp only[pars,Nat.zero_add];iterate 2 refine rS ?_
 refine AWP.ret ?_;subst hR;exact es
end N195
def D_zah : DF
 | [x0]=>some (.bool (zah (rdG yz x0)),false,[wG yr yz x0])
 | _=>none
theorem y04:OkD Tryz.prog 195 D_zah:=by unfold D_zah;exact dk N195.den
def zyf (a0:Int) (a1:Int):Int:=
 (IntKind.wrap .i64 ((a0.tmod a1)+a1)).tmod a1
namespace N246
theorem DD:DOk Tryz.prog (Go.Ab.DD []):=yf _
theorem den (a0:Int) (a1:Int) (hp0:0<a1):Den Tryz.prog 246 [.int .i64 a0,.int .i64 a1] (.int .i64 (zyf a0 a1)):=by
 generalize hR:zyf a0 a1=r;unfold zyf at hR;refine di Tryz.func246 Tryz.ntmps246 Tryz.results246 ?_;intro c hL hc hk;clear hL;simp only[pars,Nat.zero_add];iterate 2 refine rS ?_
 refine AWP.ret ?_;subst hR;exact es
end N246
def D_zyf : DF
 | [x0,x1]=>some (.int .i64 (zyf (rdI x0) (rdI x1)),false,[wI .i64 x0,wI .i64 x1,0<(rdI x1)])
 | _=>none
theorem ycx:OkD Tryz.prog 246 D_zyf:=by unfold D_zyf;exact dk N246.den
def zle (a0:Sector):Int:=
 IntKind.wrap .i64 ((zyf (IntKind.wrap .i64 ((IntKind.wrap .i64 (a0.To-a0.From))-1)) 360)+1)
namespace N197
theorem DD:DOk Tryz.prog (Go.Ab.DD [(246,dP D_zyf)]):=ya ycx.e <| yf _
abbrev dn:=@D_zyf.eq_1
theorem den (a0:Sector)  : Den Tryz.prog 197 [.agg (yr a0)] (.int .i64 (zle a0)):=by
 generalize hR:zle a0=r;unfold zle at hR;refine di Tryz.func197 Tryz.ntmps197 Tryz.results197 ?_;intro c hL hc hk;obtain⟨hL0,_⟩:=hL;have hw0:bwSector a0:=y8 a0 hL0;clear hL0;simp only[pars,Nat.zero_add];iterate 2 refine rS ?_
 refine AWP.ret ?_;subst hR;exact es
end N197
def D_zle : DF
 | [x0]=>some (.int .i64 (zle (rdG yz x0)),false,[wG yr yz x0])
 | _=>none
theorem yov:OkD Tryz.prog 197 D_zle:=by unfold D_zle;exact dk N197.den
def zlg (a0:Sector) (a1:Int):Bool:=
 decide ((zyf (IntKind.wrap .i64 (a1-a0.From)) 360)<(zle a0))
namespace N196
theorem DD:DOk Tryz.prog (Go.Ab.DD [(197,dP D_zle),(246,dP D_zyf)]):=ya yov.e <| ya ycx.e <| yf _
abbrev dn:=cj @D_zle.eq_1 <| @D_zyf.eq_1
theorem den (a0:Sector) (a1:Int)  : Den Tryz.prog 196 [.agg (yr a0),.int .i64 a1] (.bool (zlg a0 a1)):=by
 generalize hR:zlg a0 a1=r;unfold zlg at hR;refine di Tryz.func196 Tryz.ntmps196 Tryz.results196 ?_;intro c hL hc hk;obtain⟨hL0,hL1,_⟩:=hL;have hw0:bwSector a0:=y8 a0 hL0;clear hL0 hL1;simp only[pars,Nat.zero_add];refine rS ?_;refine rD 6 ?_;refine AWP.ret ?_;subst hR;exact es
end N196
def D_zlg : DF
 | [x0,x1]=>some (.bool (zlg (rdG yz x0) (rdI x1)),false,[wG yr yz x0,wI .i64 x1])
 | _=>none
theorem y93:OkD Tryz.prog 196 D_zlg:=by unfold D_zlg;exact dk N196.den
def zlb (a0:Int) (a1:Int):Bool:=
 decide (a0<=a1)
namespace N78
theorem DD:DOk Tryz.prog (Go.Ab.DD []):=yf _
theorem den (a0:Int) (a1:Int)  : Den Tryz.prog 78 [.int .i64 a0,.int .i64 a1] (.bool (zlb a0 a1)):=by
 generalize hR:zlb a0 a1=r;unfold zlb at hR;refine di Tryz.func78 Tryz.ntmps78 Tryz.results78 ?_;intro c hL hc hk;clear hL;simp only[pars,Nat.zero_add];iterate 2 refine rS ?_
 refine AWP.ret ?_;subst hR;exact es
end N78
def D_zlb : DF
 | [x0,x1]=>some (.bool (zlb (rdI x0) (rdI x1)),false,[wI .i64 x0,wI .i64 x1])
 | _=>none
theorem ymg:OkD Tryz.prog 78 D_zlb:=by unfold D_zlb;exact dk N78.den
def yzj (a0:(List Sector)) (i1:Nat) (s1:Int) (i2:Nat) (s2:Unit):Except (Bool) (Unit):=
 (bif (((i2:Int) != (i1:Int)) && (zlg (a0.getD i1 default) ((a0.getD i2 default).From)))then .error false else .ok ())
def yri (a0:(List Sector)) (i1:Nat) (s1:Int):Except (Bool) (Int):=
 (bif ((!(zah (a0.getD i1 default))) || (decide (0<(i1:Int)) && decide (((a0.getD i1 default).From)<=((a0.getD ((IntKind.wrap .i64 ((i1:Int)-1)).toNat) default).From))))then .error false else(match yh (yzj a0 i1 s1) (a0.length-0) 0 ()with|.error e=>.error e|.ok s2=>.ok (IntKind.wrap .i64 (s1+(zle (a0.getD i1 default))))))
def zgb (a0:(List Sector)):Bool:=
 (match yh (yri a0) (a0.length-0) 0 0 with|.error e=>e|.ok s1=>((zlb (a0.length:Int) 12) && decide (s1<=360)))
namespace N132
theorem DD:DOk Tryz.prog (Go.Ab.DD [(195,dP D_zah),(196,dP D_zlg),(197,dP D_zle),(78,dP D_zlb)]):=ya y04.e <| ya y93.e <| ya yov.e <| ya ymg.e <| yf _
abbrev dn:=cj @D_zah.eq_1 <| cj @D_zlg.eq_1 <| cj @D_zle.eq_1 <| @D_zlb.eq_1
theorem den (a0:(List Sector))  : Den Tryz.prog 132 [encL 3 yr a0] (.bool (zgb a0)):=by
 generalize hR:zgb a0=r;unfold zgb at hR;refine di Tryz.func132 Tryz.ntmps132 Tryz.results132 ?_;intro c hL hc hk;obtain⟨hL0,_⟩:=hL;have hw0:a0.length<9223372036854775808:=Nat.lt_succ_of_le (yb hL0).1;have hw1:∀ v∈a0,bwSector v:=fun v hv=>y8 v ((yb hL0).2 v hv)
 clear hL0;simp only[pars,Nat.zero_add];iterate 3 refine rS ?_
 refine AWP.block ?_;generalize hz1:yh (yri a0) (a0.length-0) 0 0=z1 at hR;refine AWP.range (yri a0) (fun i1 s1=>⟨[(0,encL 3 yr a0),(3,.int .i64 s1),(8,encL 3 yr a0),(9,.int .i64 (a0.length:Int)),(10,.int .i64 (i1:Int))],[]⟩) (fun i1 s1=>True) (a0.length) 0 0 [] hz1 ot wt sm ?_;clear hz1;intro i1 s1 hi1 hW1 hz1;refine rS ?_;refine AWP.seq ?_;refine AWP.cond rfl (fun hb => ?_) (fun hb => ?_)
 ·have hlt1:i1<a0.length:=ot
  rw[yl hlt1]at hz1;simp only[yri]at hz1;refine rS ?_;refine rD 18 ?_;refine AWP.cond rfl (fun hb => ?_) (fun hb => ?_)
  ·simp only[hb,cond_true]at hz1
   refine rS ?_;refine AWP.ret ?_;subst hz1;dsimp only at hR;subst hR;exact es
  ·simp only[hb,cond_false]at hz1
   refine rS ?_;refine AWP.block ?_;generalize hz2:yh (yzj a0 i1 s1) (a0.length-0) 0 ()=z2 at hz1;refine AWP.range (yzj a0 i1 s1) (fun i2 s2=>⟨[(0,encL 3 yr a0),(3,.int .i64 s1),(4,.int .i64 (i1:Int)),(5,.ptr 0 0),(8,encL 3 yr a0),(9,.int .i64 (a0.length:Int)),(10,.int .i64 (i1:Int)),(33,encL 3 yr a0),(34,.int .i64 (a0.length:Int)),(35,.int .i64 (i2:Int))],[.box [.int .i64 ((a0.getD i1 default).From),.int .i64 ((a0.getD i1 default).To),.str ((a0.getD i1 default).Color)]]⟩) (fun i2 s2=>True) (a0.length) 0 () [0] hz2 ot wt sm ?_;clear hz2;intro i2 s2 hi2 hW2 hz2;refine rS ?_;refine AWP.seq ?_;refine AWP.cond rfl (fun hb => ?_) (fun hb => ?_)
   ·have hlt2:i2<a0.length:=ot
    rw[yl hlt2]at hz2;simp only[yzj]at hz2;iterate 2 refine rS ?_
    refine AWP.cond rfl (fun hb => ?_) (fun hb => ?_)
    ·simp only[hb,cond_true]at hz2
     refine rS ?_;refine AWP.ret ?_;subst hz2;dsimp only at hz1;subst hz1;dsimp only at hR;subst hR;exact es
    ·simp only[hb,cond_false]at hz2
     refine rS ?_;exact⟨_,[0],hlt2,wt,hz2,sm⟩
   ·obtain rfl:i2=a0.length:=ot
    rw[yk (Nat.le_refl _)]at hz2;subst hz2;dsimp only at hz1;refine AWP.exit ?_;refine yd ?_;iterate 2 refine rS ?_
    exact⟨_,[],hlt1,wt,hz1,sm⟩
 ·obtain rfl:i1=a0.length:=ot
  rw[yk (Nat.le_refl _)]at hz1;subst hz1;dsimp only at hR;refine AWP.exit ?_;refine yd ?_;refine rS ?_;refine AWP.ret ?_;subst hR;exact es
end N132
def D_zgb : DF
 | [x0]=>some (.bool (zgb (rdL yz x0)),false,[wL 3 yr yz x0])
 | _=>none
theorem yaq:OkD Tryz.prog 132 D_zgb:=by unfold D_zgb;exact dk N132.den
def zug (a0:Int):Bool:=
 (ze a0 1 9)
namespace N183
theorem DD:DOk Tryz.prog (Go.Ab.DD [(63,dP D_ze)]):=ya yfc.e <| yf _
abbrev dn:=@D_ze.eq_1
abbrev ol:=@ze.eq_1
theorem den (a0:Int)  : Den Tryz.prog 183 [.int .i64 a0] (.bool (zug a0)):=by
 generalize hR:zug a0=r;unfold zug at hR;refine di Tryz.func183 Tryz.ntmps183 Tryz.results183 ?_;intro c hL hc hk;clear hL;simp only[pars,Nat.zero_add];iterate 2 refine rS ?_
 refine AWP.ret ?_;subst hR;exact es
end N183
def D_zug : DF
 | [x0]=>some (.bool (zug (rdI x0)),false,[wI .i64 x0])
 | _=>none
theorem y3v:OkD Tryz.prog 183 D_zug:=by unfold D_zug;exact dk N183.den
def zbh (a0:Int) (a1:Int):Bool:=
 (decide (0<=a0) && decide (a0<a1))
namespace N121
theorem DD:DOk Tryz.prog (Go.Ab.DD []):=yf _
theorem den (a0:Int) (a1:Int)  : Den Tryz.prog 121 [.int .i64 a0,.int .i64 a1] (.bool (zbh a0 a1)):=by
 generalize hR:zbh a0 a1=r;unfold zbh at hR;refine di Tryz.func121 Tryz.ntmps121 Tryz.results121 ?_;intro c hL hc hk;clear hL;simp only[pars,Nat.zero_add];iterate 2 refine rS ?_
 refine AWP.ret ?_;subst hR;exact es
end N121
def D_zbh : DF
 | [x0,x1]=>some (.bool (zbh (rdI x0) (rdI x1)),false,[wI .i64 x0,wI .i64 x1])
 | _=>none
theorem ya4:OkD Tryz.prog 121 D_zbh:=by unfold D_zbh;exact dk N121.den
def zvb (a0:Int) (a1:(List (List UInt8))):(List UInt8):=
 (bif (!(zbh a0 (a1.length:Int)))then[]else(a1.getD ((a0).toNat) default))
namespace N58
theorem DD:DOk Tryz.prog (Go.Ab.DD [(121,dP D_zbh)]):=ya ya4.e <| yf _
abbrev dn:=@D_zbh.eq_1
abbrev ol:=@zbh.eq_1
theorem den (a0:Int) (a1:(List (List UInt8)))  : Den Tryz.prog 58 [.int .i64 a0,encL 1 eS a1] (.str (zvb a0 a1)):=by
 generalize hR:zvb a0 a1=r;unfold zvb at hR;refine di Tryz.func58 Tryz.ntmps58 Tryz.results58 ?_;intro c hL hc hk;obtain⟨hL0,hL1,_⟩:=hL;have hw0:a1.length<9223372036854775808:=Nat.lt_succ_of_le (yb hL1).1;have hw1:∀ v∈a1,bwS v:=fun v hv=>ycw v ((yb hL1).2 v hv)
 clear hL0 hL1;simp only[pars,Nat.zero_add];iterate 2 refine rS ?_
 refine AWP.cond rfl (fun hb => ?_) (fun hb => ?_)
 ·replace hR:=ct hR
  refine rS ?_;refine AWP.ret ?_;subst hR;exact es
 ·replace hR:=cf hR
  refine rS ?_;refine AWP.ret ?_;subst hR;exact es
end N58
def D_zvb : DF
 | [x0,x1]=>some (.str (zvb (rdI x0) (rdL dS x1)),false,[wI .i64 x0,wL 1 eS dS x1])
 | _=>none
theorem yhg:OkD Tryz.prog 58 D_zvb:=by unfold D_zvb;exact dk N58.den
def zvg (a0:Int):(List UInt8):=
 (zvb a0 ([[],[82],[71],[66,89],[66,89,66],[89,66],[89,66,89],[66,82,66],[82,87],[89]]:List (List UInt8)))
namespace N184
theorem DD:DOk Tryz.prog (Go.Ab.DD [(58,dP D_zvb)]):=ya yhg.e <| yf _
abbrev dn:=@D_zvb.eq_1
theorem lx {p:Prop} (h:p:=by(exact lxx);first|done|fail):p:=h
theorem den (a0:Int)  : Den Tryz.prog 184 [.int .i64 a0] (.str (zvg a0)):=by
 generalize hR:zvg a0=r;unfold zvg at hR;refine di Tryz.func184 Tryz.ntmps184 Tryz.results184 ?_;intro c hL hc hk;clear hL;simp only[pars,Nat.zero_add];iterate 2 refine rS ?_
 refine AWP.ret ?_;subst hR;exact es
end N184
def D_zvg : DF
 | [x0]=>some (.str (zvg (rdI x0)),false,[wI .i64 x0])
 | _=>none
theorem yxw:OkD Tryz.prog 184 D_zvg:=by unfold D_zvg;exact dk N184.den
theorem yzw {P:List UInt8->Prop} (n:Int) (l:List (List UInt8)) (h0:P []) (h:∀ y∈l,P y):P (zvb n l):=by
 unfold zvb
 cases hb:zbh n (l.length:Int)with
 | false=>exact h0
 | true=>
  simp only[Bool.not_true,cond_false];rw[List.getD_eq_getElem?_getD];by_cases hi:n.toNat<l.length
  ·rw[List.getElem?_eq_getElem hi];exact h _ (List.getElem_mem hi)
  ·rw[List.getElem?_eq_none (by omega)];exact h0
def zve (a0:Int):(List (List UInt8)):=
 (zvh (zvb a0 ([[],[99,97,110,32,112,105,108,108,97,114,32,115,112,97,114],[99,111,110,101,32,112,105,108,108,97,114,32,115,112,97,114],[112,105,108,108,97,114,32,115,112,97,114],[112,105,108,108,97,114,32,115,112,97,114],[112,105,108,108,97,114,32,115,112,97,114],[112,105,108,108,97,114,32,115,112,97,114],[112,105,108,108,97,114,32,115,112,97,114],[115,112,104,101,114,101,32,112,105,108,108,97,114,32,115,112,97,114],[99,97,110,32,99,111,110,101,32,112,105,108,108,97,114,32,115,112,97,114,32,115,112,104,101,114,101]]:List (List UInt8))))
namespace N186
theorem DD:DOk Tryz.prog (Go.Ab.DD [(233,dP D_zvh),(58,dP D_zvb)]):=ya y16.e <| ya yhg.e <| yf _
abbrev dn:=cj @D_zvh.eq_1 <| @D_zvb.eq_1
theorem o0 {p:Prop} (h:p:=by(first|(and_intros<;>first|exact yzw (P:=fun y=>y.length<=1048576) _ _ (by simp) (by simp)|exact yzw (P:=fun y=>∀ x∈y,x.toNat<128) _ _ (by simp) (by simp)));first|done|fail):p:=h
theorem lx {p:Prop} (h:p:=by(exact lxx);first|done|fail):p:=h
theorem den (a0:Int)  : Den Tryz.prog 186 [.int .i64 a0] (ownL 9 1 eS (zve a0)):=by
 generalize hR:zve a0=r;unfold zve at hR;refine di Tryz.func186 Tryz.ntmps186 Tryz.results186 ?_;intro c hL hc hk;clear hL;simp only[pars,Nat.zero_add];iterate 2 refine rS ?_
 refine AWP.ret ?_;subst hR;exact es
end N186
def D_zve : DF
 | [x0]=>some (ownL 9 1 eS (zve (rdI x0)),false,[wI .i64 x0])
 | _=>none
def Dz_zve : DF
 | [x0]=>some (ownL 9 1 eS (zve (rdI x0)),true,[wI .i64 x0])
 | _=>none
theorem yg7:OkD Tryz.prog 186 D_zve:=by unfold D_zve;exact dk N186.den
theorem yrz:OkD Tryz.prog 186 Dz_zve:=by unfold Dz_zve;exact dk N186.den
def zwg (a0:Int):(List UInt8):=
 (zvb a0 ([[],[99,97,110],[99,111,110,101],[117,112],[98,97,115,101],[100,111,119,110],[112,111,105,110,116],[98,97,108,108,115],[98,97,108,108],[99,114,111,115,115]]:List (List UInt8)))
namespace N187
theorem DD:DOk Tryz.prog (Go.Ab.DD [(58,dP D_zvb)]):=ya yhg.e <| yf _
abbrev dn:=@D_zvb.eq_1
theorem lx {p:Prop} (h:p:=by(exact lxx);first|done|fail):p:=h
theorem den (a0:Int)  : Den Tryz.prog 187 [.int .i64 a0] (.str (zwg a0)):=by
 generalize hR:zwg a0=r;unfold zwg at hR;refine di Tryz.func187 Tryz.ntmps187 Tryz.results187 ?_;intro c hL hc hk;clear hL;simp only[pars,Nat.zero_add];iterate 2 refine rS ?_
 refine AWP.ret ?_;subst hR;exact es
end N187
def D_zwg : DF
 | [x0]=>some (.str (zwg (rdI x0)),false,[wI .i64 x0])
 | _=>none
theorem y9w:OkD Tryz.prog 187 D_zwg:=by unfold D_zwg;exact dk N187.den
def zed (a0:Mark):Bool:=
 (bif (a0.Kind == 0 && (a0.Colors == [] && (a0.Shape == [] && a0.Topmark == [])))then true else((((zug a0.Kind) && (a0.Colors == (zvg a0.Kind))) && (zkg (zve a0.Kind) a0.Shape)) && ((a0.Topmark == []) || (a0.Topmark == (zwg a0.Kind)))))
namespace N127
theorem DD:DOk Tryz.prog (Go.Ab.DD [(183,dP D_zug),(184,dP D_zvg),(185,dP D_zkg),(186,dP D_zve),(187,dP D_zwg)]):=ya y3v.e <| ya yxw.e <| ya yfw.e <| ya yg7.e <| ya y9w.e <| yf _
theorem DZ:DOk Tryz.prog (Go.Ab.DD [(183,dP D_zug),(184,dP D_zvg),(185,dP D_zkg),(186,dP Dz_zve),(187,dP D_zwg)]):=ya y3v.e <| ya yxw.e <| ya yfw.e <| ya yrz.e <| ya y9w.e <| yf _
abbrev dn:=cj @D_zug.eq_1 <| cj @D_zvg.eq_1 <| cj @D_zkg.eq_1 <| cj @D_zve.eq_1 <| cj @D_zwg.eq_1 <| @Dz_zve.eq_1
theorem den (a0:Mark) (hb0:bdMark a0):Den Tryz.prog 127 [.agg (ygh a0)] (.bool (zed a0)):=by
 generalize hR:zed a0=r;unfold zed at hR;refine di Tryz.func127 Tryz.ntmps127 Tryz.results127 ?_;intro c hL hc hk;obtain⟨hL0,_⟩:=hL;have hw0:bwMark a0:=yti a0 hL0;clear hL0;simp only[pars,Nat.zero_add];iterate 2 refine rS ?_
 refine AWP.cond rfl (fun hb => ?_) (fun hb => ?_)
 ·replace hR:=ct hR
  refine rS ?_;refine AWP.ret ?_;subst hR;exact es
 ·replace hR:=cf hR
  refine rZ 32 ?_;refine AWP.ret ?_;subst hR;exact es
end N127
def D_zed : DF
 | [x0]=>some (.bool (zed (rdG yhm x0)),false,[wG ygh yhm x0,bdMark (rdG yhm x0)])
 | _=>none
theorem yzp:OkD Tryz.prog 127 D_zed:=by unfold D_zed;exact dk N127.den
def zmh (a0:Int):Bool:=
 (decide (48<=a0) && decide (a0<=57))
namespace N198
theorem DD:DOk Tryz.prog (Go.Ab.DD []):=yf _
theorem den (a0:Int)  : Den Tryz.prog 198 [.int .u8 a0] (.bool (zmh a0)):=by
 generalize hR:zmh a0=r;unfold zmh at hR;refine di Tryz.func198 Tryz.ntmps198 Tryz.results198 ?_;intro c hL hc hk;clear hL;simp only[pars,Nat.zero_add];iterate 2 refine rS ?_
 refine AWP.ret ?_;subst hR;exact es
end N198
def D_zmh : DF
 | [x0]=>some (.bool (zmh (rdI x0)),false,[wI .u8 x0])
 | _=>none
theorem yr4:OkD Tryz.prog 198 D_zmh:=by unfold D_zmh;exact dk N198.den
def yix (a0:(List UInt8)) (i1:Nat) (s1:Unit):Except (Bool) (Unit):=
 (bif ((!(decide (97<=((a0.getD i1 0).toNat:Int)) && decide (((a0.getD i1 0).toNat:Int)<=122))) && (((i1:Int) == 0) || (!(zmh ((a0.getD i1 0).toNat:Int)))))then .error false else .ok ())
def zjf (a0:(List UInt8)):Bool:=
 (match yh (yix a0) (a0.length-0) 0 ()with|.error e=>e|.ok s1=>((a0 != []) && (zlb (a0.length:Int) 10)))
namespace N133
theorem DD:DOk Tryz.prog (Go.Ab.DD [(198,dP D_zmh),(78,dP D_zlb)]):=ya yr4.e <| ya ymg.e <| yf _
abbrev dn:=cj @D_zmh.eq_1 <| @D_zlb.eq_1
theorem den (a0:(List UInt8))  : Den Tryz.prog 133 [.str a0] (.bool (zjf a0)):=by
 generalize hR:zjf a0=r;unfold zjf at hR;refine di Tryz.func133 Tryz.ntmps133 Tryz.results133 ?_;intro c hL hc hk;obtain⟨hL0,_⟩:=hL;have hw0:a0.length<9223372036854775808:=Nat.lt_succ_of_le hL0;clear hL0;simp only[pars,Nat.zero_add];iterate 2 refine rS ?_
 refine AWP.block ?_;generalize hz1:yh (yix a0) (a0.length-0) 0 ()=z1 at hR;refine AWP.range (yix a0) (fun i1 s1=>⟨[(0,.str a0),(3,.int .i64 (i1:Int))],[]⟩) (fun i1 s1=>True) (a0.length) 0 () [] hz1 ot wt sm ?_;clear hz1;intro i1 s1 hi1 hW1 hz1;refine rS ?_;refine AWP.cond rfl (fun hb => ?_) (fun hb => ?_)
 ·have hlt1:i1<a0.length:=ot
  rw[yl hlt1]at hz1;simp only[yix]at hz1;iterate 2 refine rS ?_
  refine AWP.cond rfl (fun hb => ?_) (fun hb => ?_)
  ·simp only[hb,cond_true]at hz1
   refine rS ?_;refine AWP.ret ?_;subst hz1;dsimp only at hR;subst hR;exact es
  ·simp only[hb,cond_false]at hz1
   refine rS ?_;exact⟨_,[],hlt1,wt,hz1,sm⟩
 ·obtain rfl:i1=a0.length:=ot
  rw[yk (Nat.le_refl _)]at hz1;subst hz1;dsimp only at hR;refine AWP.exit ?_;refine yd ?_;refine rS ?_;refine AWP.ret ?_;subst hR;exact es
end N133
def D_zjf : DF
 | [x0]=>some (.bool (zjf (rdS x0)),false,[wS x0])
 | _=>none
theorem yt5:OkD Tryz.prog 133 D_zjf:=by unfold D_zjf;exact dk N133.den
def yer (a0:(List Int)) (i1:Nat) (s1:Int):Except (Bool) (Int):=
 (bif (!(ze (a0.getD i1 default) 1 9))then .error false else .ok (IntKind.wrap .i64 (s1+(a0.getD i1 default))))
def zie (a0:(List Int)):Bool:=
 (match yh (yer a0) (a0.length-0) 0 0 with|.error e=>e|.ok s1=>(((zlb (a0.length:Int) 4) && decide (s1<=12)) && (!(zdd a0 ([1]:List Int)))))
namespace N237
theorem DD:DOk Tryz.prog (Go.Ab.DD [(238,dP D_zdd),(63,dP D_ze),(78,dP D_zlb)]):=ya yjx.e <| ya yfc.e <| ya ymg.e <| yf _
abbrev dn:=cj @D_zdd.eq_1 <| cj @D_ze.eq_1 <| @D_zlb.eq_1
abbrev ol:=@ze.eq_1
theorem den (a0:(List Int))  : Den Tryz.prog 237 [encL 1 yx a0] (.bool (zie a0)):=by
 generalize hR:zie a0=r;unfold zie at hR;refine di Tryz.func237 Tryz.ntmps237 Tryz.results237 ?_;intro c hL hc hk;obtain⟨hL0,_⟩:=hL;have hw0:a0.length<9223372036854775808:=Nat.lt_succ_of_le (yb hL0).1;clear hL0;simp only[pars,Nat.zero_add];iterate 3 refine rS ?_
 refine AWP.block ?_;generalize hz1:yh (yer a0) (a0.length-0) 0 0=z1 at hR;refine AWP.range (yer a0) (fun i1 s1=>⟨[(0,encL 1 yx a0),(3,.int .i64 s1),(6,encL 1 yx a0),(7,.int .i64 (a0.length:Int)),(8,.int .i64 (i1:Int))],[]⟩) (fun i1 s1=>True) (a0.length) 0 0 [] hz1 ot wt sm ?_;clear hz1;intro i1 s1 hi1 hW1 hz1;refine rS ?_;refine AWP.seq ?_;refine AWP.cond rfl (fun hb => ?_) (fun hb => ?_)
 ·have hlt1:i1<a0.length:=ot
  rw[yl hlt1]at hz1;simp only[yer]at hz1;iterate 2 refine rS ?_
  refine AWP.cond rfl (fun hb => ?_) (fun hb => ?_)
  ·simp only[hb,cond_true]at hz1
   refine rS ?_;refine AWP.ret ?_;subst hz1;dsimp only at hR;subst hR;exact es
  ·simp only[hb,cond_false]at hz1
   iterate 2 refine rS ?_
   exact⟨_,[],hlt1,wt,hz1,sm⟩
 ·obtain rfl:i1=a0.length:=ot
  rw[yk (Nat.le_refl _)]at hz1;subst hz1;dsimp only at hR;refine AWP.exit ?_;refine yd ?_;refine rS ?_;refine AWP.ret ?_;subst hR;exact es
end N237
def D_zie : DF
 | [x0]=>some (.bool (zie (rdL ynb x0)),false,[wL 1 yx ynb x0])
 | _=>none
theorem ys5:OkD Tryz.prog 237 D_zie:=by unfold D_zie;exact dk N237.den
def yfi (a0:(List UInt8)) (i1:Nat) (s1:Int):Except (Bool) (Int):=
 (bif decide ((zxf [87,82,71,89] ((a0.getD i1 0).toNat:Int))<=s1)then .error false else .ok (zxf [87,82,71,89] ((a0.getD i1 0).toNat:Int)))
def zhc (a0:(List UInt8)):Bool:=
 (match yh (yfi a0) (a0.length-0) 0 (-1)with|.error e=>e|.ok s1=>(ze (a0.length:Int) 1 3))
namespace N191
theorem DD:DOk Tryz.prog (Go.Ab.DD [(236,dP D_zxf),(63,dP D_ze)]):=ya yz4.e <| ya yfc.e <| yf _
abbrev dn:=cj @D_zxf.eq_1 <| @D_ze.eq_1
abbrev ol:=@ze.eq_1
theorem den (a0:(List UInt8))  : Den Tryz.prog 191 [.str a0] (.bool (zhc a0)):=by
 generalize hR:zhc a0=r;unfold zhc at hR;refine di Tryz.func191 Tryz.ntmps191 Tryz.results191 ?_;intro c hL hc hk;obtain⟨hL0,_⟩:=hL;have hw0:a0.length<9223372036854775808:=Nat.lt_succ_of_le hL0;clear hL0;simp only[pars,Nat.zero_add];iterate 3 refine rS ?_
 refine AWP.block ?_;generalize hz1:yh (yfi a0) (a0.length-0) 0 (-1)=z1 at hR;refine AWP.range (yfi a0) (fun i1 s1=>⟨[(0,.str a0),(3,.int .i64 s1),(4,.int .i64 (i1:Int))],[]⟩) (fun i1 s1=>True) (a0.length) 0 (-1) [] hz1 ot wt sm ?_;clear hz1;intro i1 s1 hi1 hW1 hz1;refine rS ?_;refine AWP.cond rfl (fun hb => ?_) (fun hb => ?_)
 ·have hlt1:i1<a0.length:=ot
  rw[yl hlt1]at hz1;simp only[yfi]at hz1;iterate 2 refine rS ?_
  refine AWP.cond rfl (fun hb => ?_) (fun hb => ?_)
  ·simp only[hb,cond_true]at hz1
   refine rS ?_;refine AWP.ret ?_;subst hz1;dsimp only at hR;subst hR;exact es
  ·simp only[hb,cond_false]at hz1
   iterate 2 refine rS ?_
   exact⟨_,[],hlt1,wt,hz1,sm⟩
 ·obtain rfl:i1=a0.length:=ot
  rw[yk (Nat.le_refl _)]at hz1;subst hz1;dsimp only at hR;refine AWP.exit ?_;refine yd ?_;refine rS ?_;refine AWP.ret ?_;subst hR;exact es
end N191
def D_zhc : DF
 | [x0]=>some (.bool (zhc (rdS x0)),false,[wS x0])
 | _=>none
theorem y52:OkD Tryz.prog 191 D_zhc:=by unfold D_zhc;exact dk N191.den
def zic (a0:(List UInt8)):(List UInt8):=
 (bif ((((a0.length:Int) != 1) || Op.bytesLess a0 [65]) || !(Op.bytesLess a0 [90] || a0 == [90]))then[]else([[46,45],[45,46,46,46],[45,46,45,46],[45,46,46],[46],[46,46,45,46],[45,45,46],[46,46,46,46],[46,46],[46,45,45,45],[45,46,45],[46,45,46,46],[45,45],[45,46],[45,45,45],[46,45,45,46],[45,45,46,45],[46,45,46],[46,46,46],[45],[46,46,45],[46,46,46,45],[46,45,45],[45,46,46,45],[45,46,45,45],[45,45,46,46]]:List (List UInt8)).getD ((IntKind.wrap .u8 (((a0.getD 0 0).toNat:Int)-65)).toNat) [])
namespace N239
theorem DD:DOk Tryz.prog (Go.Ab.DD []):=yf _
theorem o0 {p:Prop} (h:p:=by(first|(simp only[Bool.or_eq_false_iff,Bool.not_eq_false',Bool.or_eq_true,bne_eq_false_iff_eq]at hb;have h9:=yf7 a0 hb;have h8:=hb.1.1;and_intros<;>omega));first|done|fail):p:=h
theorem den (a0:(List UInt8))  : Den Tryz.prog 239 [.str a0] (.str (zic a0)):=by
 generalize hR:zic a0=r;unfold zic at hR;refine di Tryz.func239 Tryz.ntmps239 Tryz.results239 ?_;intro c hL hc hk;obtain⟨hL0,_⟩:=hL;have hw0:a0.length<9223372036854775808:=Nat.lt_succ_of_le hL0;clear hL0;simp only[pars,Nat.zero_add];iterate 2 refine rS ?_
 refine AWP.cond rfl (fun hb => ?_) (fun hb => ?_)
 ·replace hR:=ct hR
  refine rS ?_;refine AWP.ret ?_;subst hR;exact es
 ·replace hR:=cf hR
  refine rS ?_;refine AWP.ret ?_;subst hR;exact es
end N239
def D_zic : DF
 | [x0]=>some (.str (zic (rdS x0)),false,[wS x0])
 | _=>none
theorem y7w:OkD Tryz.prog 239 D_zic:=by unfold D_zic;exact dk N239.den
def zmb (a0:Character):Bool:=
 (bif (a0.Kind == 1)then(((a0.Group.length:Int) == 0) && (a0.Letter == []))else(bif (a0.Kind == 3)then(((a0.Group.length:Int) == 0) && (a0.Letter == []))else(bif (a0.Kind == 2)then((a0.Letter == []) && (zie a0.Group))else(bif (a0.Kind == 4)then((a0.Letter == []) && (zie a0.Group))else(bif (a0.Kind == 5)then((a0.Letter == []) && (zie a0.Group))else(bif (a0.Kind == 6)then(bif (a0.Letter == [])then(((a0.Group.length:Int) == 0) || (((a0.Group.length:Int) == 1) && (ze (a0.Group.getD 0 default) 2 9)))else((a0.Letter == [76]) && (zdd a0.Group ([6]:List Int))))else(bif (a0.Kind == 7)then(bif (a0.Letter == [])then(((a0.Group.length:Int) == 0) || (((a0.Group.length:Int) == 1) && (ze (a0.Group.getD 0 default) 2 9)))else((a0.Letter == [76]) && (zdd a0.Group ([6]:List Int))))else(bif (a0.Kind == 8)then(((zic a0.Letter) != []) && ((a0.Group.length:Int) == 0))else false))))))))
namespace N192
theorem DD:DOk Tryz.prog (Go.Ab.DD [(237,dP D_zie),(238,dP D_zdd),(239,dP D_zic),(63,dP D_ze)]):=ya ys5.e <| ya yjx.e <| ya y7w.e <| ya yfc.e <| yf _
abbrev dn:=cj @D_zie.eq_1 <| cj @D_zdd.eq_1 <| cj @D_zic.eq_1 <| @D_ze.eq_1
abbrev ol:=@ze.eq_1
theorem den (a0:Character)  : Den Tryz.prog 192 [.agg (yj a0)] (.bool (zmb a0)):=by
 generalize hR:zmb a0=r;unfold zmb at hR;refine di Tryz.func192 Tryz.ntmps192 Tryz.results192 ?_;intro c hL hc hk;obtain⟨hL0,_⟩:=hL;have hw0:bwCharacter a0:=yv a0 hL0;clear hL0;simp only[pars,Nat.zero_add];iterate 3 refine rS ?_
 refine AWP.cond rfl (fun hb => ?_) (fun hb => ?_)
 ·replace hR:=ct hR
  refine AWP.skip ?_;refine AWP.cond rfl (fun hb => ?_) (fun hb => ?_)
  ·refine rS ?_
   refine AWP.ret ?_;subst hR;exact es
  ·exfalso;simp_all
 ·replace hR:=cf hR
  refine rS ?_;refine AWP.cond rfl (fun hb => ?_) (fun hb => ?_)
  ·replace hR:=ct hR
   refine rS ?_;refine AWP.ret ?_;subst hR;exact es
  ·replace hR:=cf hR
   refine rS ?_;refine AWP.cond rfl (fun hb => ?_) (fun hb => ?_)
   ·replace hR:=ct hR
    refine AWP.skip ?_;refine AWP.cond rfl (fun hb => ?_) (fun hb => ?_)
    ·refine rS ?_
     refine AWP.ret ?_;subst hR;exact es
    ·exfalso;simp_all
   ·replace hR:=cf hR
    refine rS ?_;refine AWP.cond rfl (fun hb => ?_) (fun hb => ?_)
    ·replace hR:=ct hR
     refine AWP.skip ?_;refine AWP.cond rfl (fun hb => ?_) (fun hb => ?_)
     ·refine rS ?_
      refine AWP.ret ?_;subst hR;exact es
     ·exfalso;simp_all
    ·replace hR:=cf hR
     refine rS ?_;refine AWP.cond rfl (fun hb => ?_) (fun hb => ?_)
     ·replace hR:=ct hR
      refine rS ?_;refine AWP.ret ?_;subst hR;exact es
     ·replace hR:=cf hR
      refine rS ?_;refine AWP.cond rfl (fun hb => ?_) (fun hb => ?_)
      ·replace hR:=ct hR
       refine AWP.skip ?_;refine AWP.cond rfl (fun hb => ?_) (fun hb => ?_)
       ·refine rS ?_
        refine AWP.cond rfl (fun hb => ?_) (fun hb => ?_)
        ·replace hR:=ct hR
         refine rS ?_;refine AWP.ret ?_;subst hR;exact es
        ·replace hR:=cf hR
         refine rS ?_;refine AWP.ret ?_;subst hR;exact es
       ·exfalso;simp_all
      ·replace hR:=cf hR
       refine rS ?_;refine AWP.cond rfl (fun hb => ?_) (fun hb => ?_)
       ·replace hR:=ct hR
        refine rS ?_;refine AWP.cond rfl (fun hb => ?_) (fun hb => ?_)
        ·replace hR:=ct hR
         refine rS ?_;refine AWP.ret ?_;subst hR;exact es
        ·replace hR:=cf hR
         refine rS ?_;refine AWP.ret ?_;subst hR;exact es
       ·replace hR:=cf hR
        refine rS ?_;refine AWP.cond rfl (fun hb => ?_) (fun hb => ?_)
        ·replace hR:=ct hR
         refine rS ?_;refine AWP.ret ?_;subst hR;exact es
        ·replace hR:=cf hR
         refine rS ?_;refine AWP.ret ?_;subst hR;exact es
end N192
def D_zmb : DF
 | [x0]=>some (.bool (zmb (rdG yg x0)),false,[wG yj yg x0])
 | _=>none
theorem y44:OkD Tryz.prog 192 D_zmb:=by unfold D_zmb;exact dk N192.den
theorem ysk (a:List UInt8):zic a=if a.length=1/\65<=(a.getD 0 0).toNat/\(a.getD 0 0).toNat<=90 then ynd.getD ((a.getD 0 0).toNat-65) []else[]:=by
 unfold zic;by_cases h1:a.length=1
 ·have c1:((a.length:Int) != 1)=false:=by rw[h1];rfl
  rw[c1,y6h a 65 h1,y6h a 90 h1,yx1 a 90 h1];have e1:(65:UInt8).toNat=65:=rfl;have e2:(90:UInt8).toNat=90:=rfl;rw[e1,e2];by_cases h2:65<=(a.getD 0 0).toNat/\(a.getD 0 0).toNat<=90
  ·rw[if_pos ⟨h1,h2⟩,decide_eq_false (by omega)]
   have c2:(decide ((a.getD 0 0).toNat<90) || decide ((a.getD 0 0).toNat=90))=true:=by
    rw[Bool.or_eq_true,decide_eq_true_eq,decide_eq_true_eq];omega
   rw[c2];simp only[Bool.or_self,Bool.not_true,cond_false];rw[ytl _ (by omega) (by omega),show((((a.getD 0 0).toNat:Int)-65).toNat)=(a.getD 0 0).toNat-65 by omega];rfl
  ·rw[if_neg (fun h=>h2 h.2)]
   by_cases h3:(a.getD 0 0).toNat<65
   ·rw[decide_eq_true h3];rfl
   ·have c2:(decide ((a.getD 0 0).toNat<90) || decide ((a.getD 0 0).toNat=90))=false:=by
     rw[decide_eq_false (by omega),decide_eq_false (by omega)];rfl
    rw[c2,decide_eq_false h3];rfl
 ·have c1:((a.length:Int) != 1)=true:=by rw[bne_iff_ne];omega
  rw[c1,if_neg (fun h=>h1 h.1)];rfl
theorem yi0 (a:List UInt8):(zic a).length<=4:=by
 rw[ysk];split
 ·exact yim _
 ·simp
theorem y2t (a:List UInt8):∀ x∈zic a,x.toNat<128:=by
 intro x hx;rw[ysk]at hx;split at hx
 ·rw[List.getD_eq_getElem?_getD]at hx
  cases h:ynd[(a.getD 0 0).toNat-65]? with
  | none=>rw[h]at hx;simp at hx
  | some y=>
   rw[h]at hx;rcases(yhi y (List.mem_of_getElem? h)).2.2 x hx with e|e<;>subst e<;>decide
 ·simp at hx
def zwh (a0:Int):Bool:=
 ((a0 == 6) || (a0 == 7))
namespace N240
theorem DD:DOk Tryz.prog (Go.Ab.DD []):=yf _
theorem den (a0:Int)  : Den Tryz.prog 240 [.int .i64 a0] (.bool (zwh a0)):=by
 generalize hR:zwh a0=r;unfold zwh at hR;refine di Tryz.func240 Tryz.ntmps240 Tryz.results240 ?_;intro c hL hc hk;clear hL;simp only[pars,Nat.zero_add];iterate 2 refine rS ?_
 refine AWP.ret ?_;subst hR;exact es
end N240
def D_zwh : DF
 | [x0]=>some (.bool (zwh (rdI x0)),false,[wI .i64 x0])
 | _=>none
theorem yp5:OkD Tryz.prog 240 D_zwh:=by unfold D_zwh;exact dk N240.den
def ztd (a0:Character):Bool:=
 ((a0.Kind == 1) || ((zwh a0.Kind) && ((a0.Group.length:Int) == 0)))
namespace N193
theorem DD:DOk Tryz.prog (Go.Ab.DD [(240,dP D_zwh)]):=ya yp5.e <| yf _
abbrev dn:=@D_zwh.eq_1
theorem den (a0:Character)  : Den Tryz.prog 193 [.agg (yj a0)] (.bool (ztd a0)):=by
 generalize hR:ztd a0=r;unfold ztd at hR;refine di Tryz.func193 Tryz.ntmps193 Tryz.results193 ?_;intro c hL hc hk;obtain⟨hL0,_⟩:=hL;have hw0:bwCharacter a0:=yv a0 hL0;clear hL0;simp only[pars,Nat.zero_add];iterate 2 refine rS ?_
 refine AWP.ret ?_;subst hR;exact es
end N193
def D_ztd : DF
 | [x0]=>some (.bool (ztd (rdG yg x0)),false,[wG yj yg x0])
 | _=>none
theorem ynx:OkD Tryz.prog 193 D_ztd:=by unfold D_ztd;exact dk N193.den
def zbb (a0:Int):(Int×Int×Int):=
 (bif (a0 == 2)then(10,10,15)else(bif (a0 == 4)then(5,15,20)else(bif (a0 == 5)then(20,20,25)else(bif (a0 == 6)then(5,5,20)else(bif (a0 == 7)then(2,3,10)else(bif (a0 == 8)then(5,5,30)else(0,0,0)))))))
namespace N241
theorem DD:DOk Tryz.prog (Go.Ab.DD []):=yf _
theorem den (a0:Int)  : Den Tryz.prog 241 [.int .i64 a0] (.tup [.int .i64 ((zbb a0).1),.int .i64 ((zbb a0).2.1),.int .i64 ((zbb a0).2.2)]):=by
 generalize hR:zbb a0=r;unfold zbb at hR;refine di Tryz.func241 Tryz.ntmps241 Tryz.results241 ?_;intro c hL hc hk;clear hL;simp only[pars,Nat.zero_add];iterate 3 refine rS ?_
 refine AWP.cond rfl (fun hb => ?_) (fun hb => ?_)
 ·replace hR:=ct hR
  refine rS ?_;refine AWP.ret ?_;subst hR;exact es
 ·replace hR:=cf hR
  refine rS ?_;refine AWP.cond rfl (fun hb => ?_) (fun hb => ?_)
  ·replace hR:=ct hR
   refine rS ?_;refine AWP.ret ?_;subst hR;exact es
  ·replace hR:=cf hR
   refine rS ?_;refine AWP.cond rfl (fun hb => ?_) (fun hb => ?_)
   ·replace hR:=ct hR
    refine rS ?_;refine AWP.ret ?_;subst hR;exact es
   ·replace hR:=cf hR
    refine rS ?_;refine AWP.cond rfl (fun hb => ?_) (fun hb => ?_)
    ·replace hR:=ct hR
     refine rS ?_;refine AWP.ret ?_;subst hR;exact es
    ·replace hR:=cf hR
     refine rS ?_;refine AWP.cond rfl (fun hb => ?_) (fun hb => ?_)
     ·replace hR:=ct hR
      refine rS ?_;refine AWP.ret ?_;subst hR;exact es
     ·replace hR:=cf hR
      refine rS ?_;refine AWP.cond rfl (fun hb => ?_) (fun hb => ?_)
      ·replace hR:=ct hR
       refine rS ?_;refine AWP.ret ?_;subst hR;exact es
      ·replace hR:=cf hR
       refine rS ?_;refine AWP.ret ?_;subst hR;exact es
end N241
def D_zbb : DF
 | [x0]=>some (.tup [.int .i64 ((zbb (rdI x0)).1),.int .i64 ((zbb (rdI x0)).2.1),.int .i64 ((zbb (rdI x0)).2.2)],false,[wI .i64 x0])
 | _=>none
theorem yuv:OkD Tryz.prog 241 D_zbb:=by unfold D_zbb;exact dk N241.den
def ysv (a0:(List Int)) (i1:Nat) (s1:Int):Except (Int) (Int):=
 .ok (IntKind.wrap .i64 (s1+(a0.getD i1 default)))
def zqf (a0:(List Int)):Int:=
 (match yh (ysv a0) (a0.length-0) 0 0 with|.error e=>e|.ok s1=>s1)
namespace N242
theorem DD:DOk Tryz.prog (Go.Ab.DD []):=yf _
theorem den (a0:(List Int))  : Den Tryz.prog 242 [encL 1 yx a0] (.int .i64 (zqf a0)):=by
 generalize hR:zqf a0=r;unfold zqf at hR;refine di Tryz.func242 Tryz.ntmps242 Tryz.results242 ?_;intro c hL hc hk;obtain⟨hL0,_⟩:=hL;have hw0:a0.length<9223372036854775808:=Nat.lt_succ_of_le (yb hL0).1;clear hL0;simp only[pars,Nat.zero_add];iterate 3 refine rS ?_
 refine AWP.block ?_;generalize hz1:yh (ysv a0) (a0.length-0) 0 0=z1 at hR;refine AWP.range (ysv a0) (fun i1 s1=>⟨[(3,.int .i64 s1),(6,encL 1 yx a0),(7,.int .i64 (a0.length:Int)),(8,.int .i64 (i1:Int))],[]⟩) (fun i1 s1=>True) (a0.length) 0 0 [] hz1 ot wt sm ?_;clear hz1;intro i1 s1 hi1 hW1 hz1;refine rS ?_;refine AWP.seq ?_;refine AWP.cond rfl (fun hb => ?_) (fun hb => ?_)
 ·have hlt1:i1<a0.length:=ot
  rw[yl hlt1]at hz1;simp only[ysv]at hz1;iterate 3 refine rS ?_
  exact⟨_,[],hlt1,wt,hz1,sm⟩
 ·obtain rfl:i1=a0.length:=ot
  rw[yk (Nat.le_refl _)]at hz1;subst hz1;dsimp only at hR;refine AWP.exit ?_;refine yd ?_;refine rS ?_;refine AWP.ret ?_;subst hR;exact es
end N242
def D_zqf : DF
 | [x0]=>some (.int .i64 (zqf (rdL ynb x0)),false,[wL 1 yx ynb x0])
 | _=>none
theorem y96:OkD Tryz.prog 242 D_zqf:=by unfold D_zqf;exact dk N242.den
end Go.Ab
