/- A part of a proof: walks of functions and lemmas of our own. No conditions. -/
import Derived.Test.YtaneiddiakjgdaaGreatDoorWAl
import Derived.Test.YtaneiddiakjgdaaGreatDoorWAs
import Derived.Test.YtaneiddiakjgdaaGreatDoorWAi
set_option linter.unusedSectionVars false
set_option linter.unusedVariables false
set_option linter.unusedSimpArgs false
set_option maxHeartbeats 1000000
namespace Go.Ab
open Go Go.Proofs
def yrl (a0:(List Notice)) (i1:Nat) (s1:List Notice):Except ((List Notice)) (List Notice):=
 .ok (s1++[{ Number:=(a0.getD i1 default).Number,Day:=(a0.getD i1 default).Day,Kind:=(a0.getD i1 default).Kind,Target:=(a0.getD i1 default).Target,Aid:=zic ((a0.getD i1 default).Aid):Notice }])
def zrb (a0:(List Notice)):(List Notice):=
 (match yh (yrl a0) (a0.length-0) 0 (List.replicate 0 (default:Notice))with|.error e=>e|.ok s1=>s1)
namespace N126
theorem DD:DOk Tryz.prog (Go.Ab.DD [(81,dP D_zic)]):=ya ywi.e <| ye _
theorem dn:type_of% (@D_zic.eq_1):=by and_intros<;>intros<;>rfl
theorem den (a0:(List Notice)) (hb0:a0.length<1099511627776) (hb1:∀ v∈a0,bdNotice v) (hp0:a0.length≤1073741824):Den Tryz.prog 126 [encL 20 eNotice a0] (ownL 90 20 ybb (zrb a0)):=by
 generalize hR:zrb a0=r
 unfold zrb at hR
 refine di Tryz.func126 Tryz.ntmps126 Tryz.results126 ?_
 intro c hL hc hk
 obtain⟨hL0,_⟩:=hL
 have hw0:a0.length<9223372036854775808:=Nat.lt_succ_of_le (yb hL0).1
 have hw1:∀ v∈a0,bwNotice v:=fun v hv=>yg v ((yb hL0).2 v hv)
 clear hL0
 simp only[pars,Nat.zero_add]
 iterate 3 refine rS ?_
 refine AWP.block ?_
 generalize hz1:yh (yrl a0) (a0.length-0) 0 (List.replicate 0 (default:Notice))=z1 at hR
 refine AWP.range (yrl a0) (fun i1 s1=>⟨[(3,.ref 0 20 0 s1.length),(10,encL 20 eNotice a0),(11,.int .i64 (a0.length:Int)),(12,.int .i64 (i1:Int))],[.arr 90 20 s1.length (fun j=>ybb (s1.getD j default))]⟩) (fun i1 s1=>s1.length≤(List.replicate 0 (default:Notice)).length+1 * i1) (a0.length) 0 (List.replicate 0 (default:Notice)) [0] hz1 ot wt sm ?_
 clear hz1
 intro i1 s1 hi1 hW1 hz1
 refine rS ?_
 refine AWP.seq ?_
 refine AWP.cond rfl (fun hb => ?_) (fun hb => ?_)
 ·have hlt1:i1<a0.length:=ot
  rw[yj hlt1]at hz1;simp only[yrl]at hz1
  iterate 4 refine rS ?_
  exact⟨_,[5],hlt1,wt,hz1,sm⟩
 ·obtain rfl:i1=a0.length:=ot
  rw[yi (Nat.le_refl _)]at hz1;subst hz1;dsimp only at hR
  refine AWP.exit ?_;refine yd ?_
  refine rS ?_
  refine AWP.ret ?_
  subst hR
  exact es
end N126
def D_zrb : DF
 | [x0]=>some (ownL 90 20 ybb (zrb (rdL yc x0)),false,[wL 20 eNotice yc x0,(rdL yc x0).length<1099511627776,∀ v∈(rdL yc x0),bdNotice v,(rdL yc x0).length≤1073741824])
 | _=>none
theorem yvx:OkD Tryz.prog 126 D_zrb:=by unfold D_zrb;exact dk N126.den
end Go.Ab

namespace Go.Ab
open Go Go.Proofs
def zjc (a0:(List Notice)):(List Notice):=
 (List.replicate 0 (default:Notice))++a0
namespace N127
theorem DD:DOk Tryz.prog (Go.Ab.DD []):=ye _
theorem o3 {p:Prop} (h:p:=by(first|(have hb0:∀ i:Nat,Nat.blt i 0=false:=fun i=>by cases i<;>rfl);simp only[hb0,cond_false,List.replicate_zero,List.nil_append];refine⟨Nat.le_refl _,.inr fun i hi => ?_,trivial,fun i hi => ?_⟩;(focus(simp[NoOwnL,NoOwn]));(focus(exact yjb _)));first|done|fail):p:=h
theorem den (a0:(List Notice)) (hb0:a0.length<1099511627776) (hb1:∀ v∈a0,bdNotice v) (hp0:a0.length≤1073741824):Den Tryz.prog 127 [encL 20 eNotice a0] (ownL 90 20 eNotice (zjc a0)):=by
 generalize hR:zjc a0=r
 unfold zjc at hR
 refine di Tryz.func127 Tryz.ntmps127 Tryz.results127 ?_
 intro c hL hc hk
 obtain⟨hL0,_⟩:=hL
 have hw0:a0.length<9223372036854775808:=Nat.lt_succ_of_le (yb hL0).1
 have hw1:∀ v∈a0,bwNotice v:=fun v hv=>yg v ((yb hL0).2 v hv)
 clear hL0
 simp only[pars,Nat.zero_add]
 iterate 2 refine rS ?_
 refine AWP.ret ?_
 subst hR
 exact es
end N127
def D_zjc : DF
 | [x0]=>some (ownL 90 20 eNotice (zjc (rdL yc x0)),false,[wL 20 eNotice yc x0,(rdL yc x0).length<1099511627776,∀ v∈(rdL yc x0),bdNotice v,(rdL yc x0).length≤1073741824])
 | _=>none
theorem yp0:OkD Tryz.prog 127 D_zjc:=by unfold D_zjc;exact dk N127.den
end Go.Ab

namespace Go.Ab
open Go Go.Proofs
theorem yhe (l:List Notice):zjc l=l:=by simp[zjc]
end Go.Ab
