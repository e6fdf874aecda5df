/- A part of a proof: walks of functions and lemmas of our own. No conditions. -/
import Derived.Test.YtaneiddiakjgdaaGreatDoorWAl
import Derived.Test.YtaneiddiakjgdaaGreatDoorWAw
set_option linter.unusedSectionVars false
set_option linter.unusedVariables false
set_option linter.unusedSimpArgs false
set_option maxHeartbeats 1000000
namespace Go.Ab
open Go Go.Proofs
def zre (a0:Notice):Notice:=
 { Number:=a0.Number,Day:=a0.Day,Kind:=a0.Kind,Target:=a0.Target,Aid:=zkc a0.Aid:Notice }
namespace N123
theorem DD:DOk Tryz.prog (Go.Ab.DD [(106,dP D_zkc)]):=ya y2i.e <| ye _
theorem dn:type_of% (@D_zkc.eq_1):=by and_intros<;>intros<;>rfl
theorem den (a0:Notice) (hb0:bdNotice a0):Den Tryz.prog 123 [.ep (eNotice a0)] (.agg (ybb (zre a0))):=by
 generalize hR:zre a0=r
 unfold zre at hR
 refine di Tryz.func123 Tryz.ntmps123 Tryz.results123 ?_
 intro c hL hc hk
 obtain⟨hL0,_⟩:=hL
 have hw0:bwNotice a0:=yg a0 hL0
 clear hL0
 simp only[pars,Nat.zero_add]
 iterate 4 refine rS ?_
 refine AWP.ret ?_
 subst hR
 exact es
end N123
def D_zre : DF
 | [x0]=>some (.agg (ybb (zre (rdP yc x0))),false,[wP eNotice yc x0,bdNotice (rdP yc x0)])
 | _=>none
theorem yts:OkD Tryz.prog 123 D_zre:=by unfold D_zre;exact dk N123.den
end Go.Ab

namespace Go.Ab
open Go Go.Proofs
def yvl (a0:(List Notice)) (i1:Nat) (s1:List Notice):Except ((List Notice)) (List Notice):=
 .ok (s1++[zre (a0.getD i1 default)])
def zud (a0:(List Notice)):(List Notice):=
 (match yh (yvl a0) (a0.length-0) 0 ([]:List Notice)with|.error e=>e|.ok s1=>s1)
namespace N122
theorem DD:DOk Tryz.prog (Go.Ab.DD [(123,dP D_zre)]):=ya yts.e <| ye _
theorem dn:type_of% (@D_zre.eq_1):=by and_intros<;>intros<;>rfl
theorem den (a0:(List Notice)) (hb0:a0.length<1099511627776) (hb1:∀ v∈a0,bdNotice v) (hp0:a0.length≤1073741824):Den Tryz.prog 122 [encL 20 eNotice a0] (ownL 90 20 ybb (zud a0)):=by
 generalize hR:zud a0=r
 unfold zud at hR
 refine di Tryz.func122 Tryz.ntmps122 Tryz.results122 ?_
 intro c hL hc hk
 obtain⟨hL0,_⟩:=hL
 have hw0:a0.length<9223372036854775808:=Nat.lt_succ_of_le (yb hL0).1
 have hw1:∀ v∈a0,bwNotice v:=fun v hv=>yg v ((yb hL0).2 v hv)
 clear hL0
 simp only[pars,Nat.zero_add]
 iterate 3 refine rS ?_
 refine AWP.block ?_
 generalize hz1:yh (yvl a0) (a0.length-0) 0 ([]:List Notice)=z1 at hR
 refine AWP.range (yvl a0) (fun i1 s1=>⟨[(0,encL 20 eNotice a0),(3,.ref 0 20 0 s1.length),(4,.int .i64 (i1:Int))],[.arr 90 20 s1.length (fun j=>ybb (s1.getD j default))]⟩) (fun i1 s1=>s1.length≤([]:List Notice).length+1 * i1) (a0.length) 0 ([]:List Notice) [0] hz1 ot wt sm ?_
 clear hz1
 intro i1 s1 hi1 hW1 hz1
 refine rS ?_
 refine AWP.cond rfl (fun hb => ?_) (fun hb => ?_)
 ·have hlt1:i1<a0.length:=ot
  rw[yj hlt1]at hz1;simp only[yvl]at hz1
  iterate 2 refine rS ?_
  exact⟨_,[4],hlt1,wt,hz1,sm⟩
 ·obtain rfl:i1=a0.length:=ot
  rw[yi (Nat.le_refl _)]at hz1;subst hz1;dsimp only at hR
  refine AWP.exit ?_;refine yd ?_
  refine rS ?_
  refine AWP.ret ?_
  subst hR
  exact es
end N122
def D_zud : DF
 | [x0]=>some (ownL 90 20 ybb (zud (rdL yc x0)),false,[wL 20 eNotice yc x0,(rdL yc x0).length<1099511627776,∀ v∈(rdL yc x0),bdNotice v,(rdL yc x0).length≤1073741824])
 | _=>none
theorem yhy:OkD Tryz.prog 122 D_zud:=by unfold D_zud;exact dk N122.den
end Go.Ab
