/- A part of a proof: walks of functions and lemmas of our own. No conditions. -/
import Derived.Test.YtopoomikfjodkaaGreatDoorQAw
import Derived.Test.YtopoomikfjodkaaGreatDoorQAv
import Derived.Test.YtopoomikfjodkaaGreatDoorQAs
import Derived.Test.YtopoomikfjodkaaGreatDoorQAl
import Derived.Test.YtopoomikfjodkaaGreatDoorQAq
import Derived.Test.YtopoomikfjodkaaGreatDoorQBc
import Derived.Test.YtopoomikfjodkaaGreatDoorQAo
import Derived.Test.YtopoomikfjodkaaGreatDoorQAz
import Derived.Test.YtopoomikfjodkaaGreatDoorQAi
set_option linter.unusedSectionVars false
set_option linter.unusedVariables false
set_option linter.unusedSimpArgs false
set_option maxHeartbeats 1000000
namespace Go.Ab
open Go Go.Proofs
theorem yyl (a:List Item):zgc a=ztb a:=by
 unfold zgc ztb
 have:yvk a=yoi a:=by
  funext i s
  unfold yvk yoi ztf zqe
  rw[ycx]
  rfl
 rw[this]
 rfl
theorem yuq {l:List Item} (h:ztb l=true):∀ i,i<l.length→zqe (l.getD i default)=true:=by
 unfold ztb at h
 rcases y6d (b:=yoi l) (fun j=>(!(zqe (l.getD j default))) || (decide (0<(j:Int)) && (!(Op.bytesLess ((l.getD ((IntKind.wrap .i64 ((j:Int)-1)).toNat) default).Key) ((l.getD j default).Key))))) (fun _ u=>u) false (k:=l.length-0) (i:=0) (s:=()) (fun j u _ _=>by cases u;rfl)with⟨_,e1⟩|⟨hq,_⟩
 ·rw[e1]at h;cases h
 ·intro i hi
  have:=hq i (Nat.zero_le _) (by omega)
  rw[Bool.or_eq_false_iff]at this
  simpa using this.1
theorem y7l {l:List Item} (h:(!ztb l)=false) (i:Nat) (hi:i<l.length):(l.getD i default).Key.length≤10∧(l.getD i default).Text.length≤400:=by
 have h1:=yuq (by simpa using h) i hi
 unfold zqe at h1
 rw[Bool.and_eq_true,decide_eq_true_eq]at h1
 exact⟨((y8f _).1 h1.1).2.1,by omega⟩
theorem y5l {l:List Item} (h:(!zgc l)=false) (i:Nat) (hi:i<l.length):(l.getD i default).Key.length≤10∧(l.getD i default).Text.length≤400:=by
 rw[yyl]at h
 exact y7l h i hi
end Go.Ab

namespace Go.Ab
open Go Go.Proofs
def y5e (a0:(List Item)) (i1:Nat) (s1:List Aid):Except (((List Aid)×Int)) (List Aid):=
 (bif (!((zee ((a0.getD i1 default).Key)).2))then .ok s1 else(bif (!((zke ((a0.getD i1 default).Text)).2))then .error ([],9)else(bif ((((zke ((a0.getD i1 default).Text)).1).Number) != ((zee ((a0.getD i1 default).Key)).1))then .error ([],6)else .ok (s1++[(zke ((a0.getD i1 default).Text)).1]))))
def zgb (a0:(List Item)):((List Aid)×Int):=
 (bif (!(zgc a0))then([],1)else(match yd (y5e a0) (a0.length-0) 0 ([]:List Aid)with|.error e=>e|.ok s1=>(bif (!(zx (s1.length:Int) 24))then([],5)else(s1,0))))
namespace N70
theorem DD:DOk Tryz.prog (Go.Ab.DD [(158,dP D_zgc),(159,dP D_zee),(160,dP D_zx),(54,dP D_zke)]):=ya y31.e <| ya ylz.e <| ya y9f.e <| ya yo3.e <| ye _
theorem dn:type_of% (And.intro @D_zgc.eq_1 <| And.intro @D_zee.eq_1 <| And.intro @D_zx.eq_1 <| @D_zke.eq_1):=by and_intros<;>intros<;>rfl
theorem gr {p:Prop} (h:p:=by(grind [yb6]);first|done|fail):p:=h
theorem o0 {p:Prop} (h:p:=by(first|(have h9:=hit (by assumption) i1 (by assumption);(repeat' with_reducible apply And.intro)<;>first|with_reducible assumption|omega|(simp only[List.length_append,List.length_cons,List.length_nil,List.length_singleton];omega)|(simp only[ob,ln,ol]at *;omega)));first|done|fail):p:=h
set_option maxHeartbeats 1000000 in
set_option maxRecDepth 20000 in
theorem den (a0:(List Item)) (hb0:a0.length<1099511627776) (hb1:∀ v∈a0,bdItem v):Den Tryz.prog 70 [encL 2 eItem a0] (.tup [ownL 60 16 y0e ((zgb a0).1),.int .i64 ((zgb a0).2)]):=by
 generalize hR:zgb a0=r
 unfold zgb at hR
 refine di Tryz.func70 Tryz.ntmps70 Tryz.results70 ?_
 intro c hL hc hk
 obtain⟨hL0,_⟩:=hL
 have hw0:a0.length<9223372036854775808:=Nat.lt_succ_of_le (yf hL0).1
 have hw1:∀ v∈a0,bwItem v:=fun v hv=>ybb v ((yf hL0).2 v hv)
 clear hL0
 simp only[pars,Nat.zero_add]
 have hit:=fun h i hi=>y5l (l:=a0) h i hi
 iterate 2 refine rS ?_
 refine AWP.cond rfl (fun hb => ?_) (fun hb => ?_)
 ·replace hR:=ct hR
  refine rS ?_
  refine AWP.ret ?_
  subst hR
  exact es
 ·replace hR:=cf hR
  iterate 2 refine rS ?_
  refine AWP.block ?_
  generalize hz1:yd (y5e a0) (a0.length-0) 0 ([]:List Aid)=z1 at hR
  refine AWP.range (y5e a0) (fun i1 s1=>⟨[(4,.ref 0 16 0 s1.length),(15,encL 2 eItem a0),(16,.int .i64 (a0.length:Int)),(17,.int .i64 (i1:Int))],[.arr 60 16 s1.length (fun j=>y0e (s1.getD j default))]⟩) (fun i1 s1=>s1.length≤([]:List Aid).length+1 * i1∧s1.length≤i1) (a0.length) 0 ([]:List Aid) [0] hz1 ot wt sm ?_
  clear hz1
  intro i1 s1 hi1 hW1 hz1
  refine rS ?_
  refine AWP.seq ?_
  refine AWP.cond rfl (fun hb => ?_) (fun hb => ?_)
  ·have hlt1:i1<a0.length:=ot
   rw[yh hlt1]at hz1;simp only[y5e]at hz1
   iterate 3 refine rS ?_
   refine AWP.cond rfl (fun hb => ?_) (fun hb => ?_)
   ·simp only[hb,cond_true]at hz1
    refine AWP.exit ?_
    refine yb ?_
    refine rS ?_
    exact⟨_,[0],hlt1,wt,hz1,sm⟩
   ·simp only[hb,cond_false]at hz1
    iterate 2 refine rS ?_
    refine AWP.cond rfl (fun hb => ?_) (fun hb => ?_)
    ·simp only[hb,cond_true]at hz1
     refine rS ?_
     refine AWP.ret ?_
     subst hz1
     dsimp only at hR
     subst hR
     exact es
    ·simp only[hb,cond_false]at hz1
     refine rS ?_
     refine AWP.cond rfl (fun hb => ?_) (fun hb => ?_)
     ·simp only[hb,cond_true]at hz1
      refine rS ?_
      refine AWP.ret ?_
      subst hz1
      dsimp only at hR
      subst hR
      exact es
     ·simp only[hb,cond_false]at hz1
      iterate 2 refine rS ?_
      exact⟨_,[6],hlt1,wt,hz1,sm⟩
  ·obtain rfl:i1=a0.length:=ot
   rw[yg (Nat.le_refl _)]at hz1;subst hz1;dsimp only at hR
   refine AWP.exit ?_;refine yb ?_
   refine rS ?_
   refine AWP.cond rfl (fun hb => ?_) (fun hb => ?_)
   ·replace hR:=ct hR
    refine rS ?_
    refine AWP.ret ?_
    subst hR
    exact es
   ·replace hR:=cf hR
    refine rS ?_
    refine AWP.ret ?_
    subst hR
    exact es
end N70
def D_zgb : DF
 | [x0]=>some (.tup [ownL 60 16 y0e ((zgb (rdL yhb x0)).1),.int .i64 ((zgb (rdL yhb x0)).2)],false,[wL 2 eItem yhb x0,(rdL yhb x0).length<1099511627776,∀ v∈(rdL yhb x0),bdItem v])
 | _=>none
theorem y0z:OkD Tryz.prog 70 D_zgb:=by unfold D_zgb;exact dk N70.den
end Go.Ab

namespace Go.Ab
open Go Go.Proofs
def ycf (a0:(List Item)) (i1:Nat) (s1:List Aid):Except (((List Aid)×Int)) (List Aid):=
 (bif ((zwc ((a0.getD i1 default).Key)) == 0)then .ok s1 else(bif (!((zzc ((a0.getD i1 default).Text)).2))then .error ([],9)else(bif ((((zzc ((a0.getD i1 default).Text)).1).Number) != (zwc ((a0.getD i1 default).Key)))then .error ([],6)else .ok (s1++[(zzc ((a0.getD i1 default).Text)).1]))))
def zjb (a0:(List Item)):((List Aid)×Int):=
 (bif (!(ztb a0))then([],1)else(match yd (ycf a0) (a0.length-0) 0 ([]:List Aid)with|.error e=>e|.ok s1=>(bif decide (24<(s1.length:Int))then([],5)else(s1,0))))
namespace N68
theorem DD:DOk Tryz.prog (Go.Ab.DD [(134,dP D_zzc),(155,dP D_ztb),(156,dP D_zwc)]):=ya yuz.e <| ya yi2.e <| ya ynz.e <| ye _
theorem dn:type_of% (And.intro @D_zzc.eq_1 <| And.intro @D_ztb.eq_1 <| @D_zwc.eq_1):=by and_intros<;>intros<;>rfl
theorem gr {p:Prop} (h:p:=by(grind [yz5]);first|done|fail):p:=h
theorem o0 {p:Prop} (h:p:=by(first|(have h9:=hit (by assumption) i1 (by assumption);(repeat' with_reducible apply And.intro)<;>first|with_reducible assumption|omega|(simp only[List.length_append,List.length_cons,List.length_nil,List.length_singleton];omega)|(simp only[ob,ln,ol]at *;omega)));first|done|fail):p:=h
set_option maxHeartbeats 1000000 in
set_option maxRecDepth 20000 in
theorem den (a0:(List Item)) (hb0:a0.length<1099511627776) (hb1:∀ v∈a0,bdItem v):Den Tryz.prog 68 [encL 2 eItem a0] (.tup [ownL 60 16 y0e ((zjb a0).1),.int .i64 ((zjb a0).2)]):=by
 generalize hR:zjb a0=r
 unfold zjb at hR
 refine di Tryz.func68 Tryz.ntmps68 Tryz.results68 ?_
 intro c hL hc hk
 obtain⟨hL0,_⟩:=hL
 have hw0:a0.length<9223372036854775808:=Nat.lt_succ_of_le (yf hL0).1
 have hw1:∀ v∈a0,bwItem v:=fun v hv=>ybb v ((yf hL0).2 v hv)
 clear hL0
 simp only[pars,Nat.zero_add]
 have hit:=fun h i hi=>y7l (l:=a0) h i hi
 iterate 2 refine rS ?_
 refine AWP.cond rfl (fun hb => ?_) (fun hb => ?_)
 ·replace hR:=ct hR
  refine rS ?_
  refine AWP.ret ?_
  subst hR
  exact es
 ·replace hR:=cf hR
  iterate 2 refine rS ?_
  refine AWP.block ?_
  generalize hz1:yd (ycf a0) (a0.length-0) 0 ([]:List Aid)=z1 at hR
  refine AWP.range (ycf a0) (fun i1 s1=>⟨[(0,encL 2 eItem a0),(4,.ref 0 16 0 s1.length),(5,.int .i64 (i1:Int))],[.arr 60 16 s1.length (fun j=>y0e (s1.getD j default))]⟩) (fun i1 s1=>s1.length≤([]:List Aid).length+1 * i1∧s1.length≤i1) (a0.length) 0 ([]:List Aid) [0] hz1 ot wt sm ?_
  clear hz1
  intro i1 s1 hi1 hW1 hz1
  refine rS ?_
  refine AWP.cond rfl (fun hb => ?_) (fun hb => ?_)
  ·have hlt1:i1<a0.length:=ot
   rw[yh hlt1]at hz1;simp only[ycf]at hz1
   iterate 2 refine rS ?_
   refine AWP.cond rfl (fun hb => ?_) (fun hb => ?_)
   ·simp only[hb,cond_true]at hz1
    refine AWP.exit ?_
    refine yb ?_
    refine rS ?_
    exact⟨_,[0],hlt1,wt,hz1,sm⟩
   ·simp only[hb,cond_false]at hz1
    iterate 2 refine rS ?_
    refine AWP.cond rfl (fun hb => ?_) (fun hb => ?_)
    ·simp only[hb,cond_true]at hz1
     refine rS ?_
     refine AWP.ret ?_
     subst hz1
     dsimp only at hR
     subst hR
     exact es
    ·simp only[hb,cond_false]at hz1
     refine rS ?_
     refine AWP.cond rfl (fun hb => ?_) (fun hb => ?_)
     ·simp only[hb,cond_true]at hz1
      refine rS ?_
      refine AWP.ret ?_
      subst hz1
      dsimp only at hR
      subst hR
      exact es
     ·simp only[hb,cond_false]at hz1
      iterate 2 refine rS ?_
      exact⟨_,[5],hlt1,wt,hz1,sm⟩
  ·obtain rfl:i1=a0.length:=ot
   rw[yg (Nat.le_refl _)]at hz1;subst hz1;dsimp only at hR
   refine AWP.exit ?_;refine yb ?_
   refine rS ?_
   refine AWP.cond rfl (fun hb => ?_) (fun hb => ?_)
   ·replace hR:=ct hR
    refine rS ?_
    refine AWP.ret ?_
    subst hR
    exact es
   ·replace hR:=cf hR
    refine rS ?_
    refine AWP.ret ?_
    subst hR
    exact es
end N68
def D_zjb : DF
 | [x0]=>some (.tup [ownL 60 16 y0e ((zjb (rdL yhb x0)).1),.int .i64 ((zjb (rdL yhb x0)).2)],false,[wL 2 eItem yhb x0,(rdL yhb x0).length<1099511627776,∀ v∈(rdL yhb x0),bdItem v])
 | _=>none
theorem y72:OkD Tryz.prog 68 D_zjb:=by unfold D_zjb;exact dk N68.den
end Go.Ab

namespace Go.Ab
open Go Go.Proofs
theorem yt3 (l:List Item):zgb l=zjb l∧(zjb l).1.length≤24∧∀ v∈(zjb l).1,v.Light.Group.length≤1048576∧v.Sectors.length≤1048576:=by
 have hb:ztb l=true→∀ j (u:List Aid),j<l.length→y5e l j u=ycf l j u:=fun hok j u hj=>by
  have h1:=yuq hok j hj
  unfold zqe at h1
  rw[Bool.and_eq_true,decide_eq_true_eq]at h1
  have h2:=yst h1.1
  unfold y5e ycf
  rw[y8l _ (by omega)]
  rcases yw5 (l.getD j default).Key (by omega)with⟨q1,q2,q3⟩|⟨q1,q2⟩
  ·rw[q1,q2,show(zwc (l.getD j default).Key == 0)=false by rw[beq_eq_false_iff_ne];exact q3]
   rfl
  ·rw[q1,q2];rfl
 unfold zgb zjb
 rw[yyl]
 cases hok:ztb l with
 | false=>exact⟨rfl,by simp,by simp⟩
 | true=>
  rw[yol (b:=y5e l) (b':=ycf l) (l.length-0) 0 [] (fun j u _ hj=>hb hok j u (by omega))]
  simp only[Bool.not_true,cond_false]
  have he:=yth (b:=ycf l) (fun e=>e.1=[]) (fun j s e h=>by
   unfold ycf at h
   simp only[Bool.cond_eq_ite]at h
   split at h
   ·cases h
   ·split at h
    ·have h:=Except.error.inj h
     rw[← h]
    ·split at h
     ·have h:=Except.error.inj h
      rw[← h]
     ·cases h) (l.length-0) 0 []
  cases hz:yd (ycf l) (l.length-0) 0 []with
  | error e=>
   have:=he e hz
   simp only
   rw[this]
   exact⟨by simp,by simp,by simp⟩
  | ok s=>
   have hk:=y8c (fun k (t:List Aid)=>∀ v∈t,v.Light.Group.length≤1048576∧v.Sectors.length≤1048576) hz (by simp) (fun j u v _ hj hI hb=>by
    unfold ycf at hb
    simp only[Bool.cond_eq_ite]at hb
    split at hb
    ·have hb:u=v:=by simpa using hb
     rw[← hb];exact hI
    ·split at hb
     ·cases hb
     ·split at hb
      ·cases hb
      ·have hb:=Except.ok.inj hb
       rw[← hb]
       intro w hw
       rcases List.mem_append.1 hw with hw|hw
       ·exact hI w hw
       ·rw[List.mem_singleton]at hw
        subst hw
        have:=ydx (l.getD j default).Text
        omega)
   simp only[zx]
   by_cases h24:(s.length:Int)≤24
   ·rw[decide_eq_true h24,decide_eq_false (show ¬ 24<(s.length:Int)by omega)]
    exact⟨rfl,by show s.length≤24;omega,hk⟩
   ·rw[decide_eq_false h24,decide_eq_true (show 24<(s.length:Int)by omega)]
    exact⟨rfl,by simp,by simp⟩
theorem yh4 (l:List Item):(zgb l).1.length≤24∧∀ v∈(zgb l).1,bdAid v:=by
 unfold zgb
 cases hok:(!(zgc l))with
 | true=>exact⟨by simp,by simp⟩
 | false=>
  rw[cond_false]
  have he:=yth (b:=y5e l) (fun e=>e.1=[]) (fun j s e h=>by
   unfold y5e at h
   simp only[Bool.cond_eq_ite]at h
   split at h
   ·cases h
   ·split at h
    ·have h:=Except.error.inj h
     rw[← h]
    ·split at h
     ·have h:=Except.error.inj h
      rw[← h]
     ·cases h) (l.length-0) 0 []
  cases hz:yd (y5e l) (l.length-0) 0 []with
  | error e=>
   have:=he e hz
   simp only
   rw[this]
   exact⟨by simp,by simp⟩
  | ok s=>
   have hk:=y8c (fun k (t:List Aid)=>∀ v∈t,bdAid v) hz (by simp) (fun j u v _ hj hI hb=>by
    unfold y5e at hb
    simp only[Bool.cond_eq_ite]at hb
    split at hb
    ·have hb:u=v:=by simpa using hb
     rw[← hb];exact hI
    ·split at hb
     ·cases hb
     ·split at hb
      ·cases hb
      ·have hb:=Except.ok.inj hb
       rw[← hb]
       intro w hw
       rcases List.mem_append.1 hw with hw|hw
       ·exact hI w hw
       ·rw[List.mem_singleton]at hw
        subst hw
        exact yjv _ (by have:=(y5l hok j (by omega)).2;omega))
   simp only[zx]
   by_cases h24:(s.length:Int)≤24
   ·rw[decide_eq_true h24]
    exact⟨by show s.length≤24;omega,hk⟩
   ·rw[decide_eq_false h24]
    exact⟨by simp,by simp⟩
theorem ye6 (l:List Item):(zjb l).1.length≤24∧∀ v∈(zjb l).1,bdAid v:=by rw[← (yt3 l).1];exact yh4 l
end Go.Ab

namespace Go.Ab
open Go Go.Proofs
def zle (a0:Item):Item:=
 a0
namespace N157
theorem DD:DOk Tryz.prog (Go.Ab.DD []):=ye _
theorem den (a0:Item)  : Den Tryz.prog 157 [.agg (eItem a0)] (.agg (eItem (zle a0))):=by
 generalize hR:zle a0=r
 unfold zle at hR
 refine di Tryz.func157 Tryz.ntmps157 Tryz.results157 ?_
 intro c hL hc hk
 obtain⟨hL0,_⟩:=hL
 have hw0:bwItem a0:=ybb a0 hL0
 clear hL0
 simp only[pars,Nat.zero_add]
 iterate 5 refine rS ?_
 refine AWP.ret ?_
 subst hR
 exact es
end N157
def D_zle : DF
 | [x0]=>some (.agg (eItem (zle (rdG yhb x0))),false,[wG eItem yhb x0])
 | _=>none
theorem ys2:OkD Tryz.prog 157 D_zle:=by unfold D_zle;exact dk N157.den
end Go.Ab

namespace Go.Ab
open Go Go.Proofs
def ybq (a0:(List Item)) (i1:Nat) (s1:List Item):Except ((List Item)) (List Item):=
 .ok (s1.set i1 (zle (a0.getD i1 default)))
def zdb (a0:(List Item)):(List Item):=
 (match yd (ybq a0) (a0.length-0) 0 (List.replicate a0.length (default:Item))with|.error e=>e|.ok s1=>s1)
namespace N69
theorem DD:DOk Tryz.prog (Go.Ab.DD [(157,dP D_zle)]):=ya ys2.e <| ye _
theorem dn:type_of% (@D_zle.eq_1):=by and_intros<;>intros<;>rfl
theorem ol:type_of% (@zle.eq_1):=@zle.eq_1
theorem den (a0:(List Item)) (hb0:a0.length<1099511627776) (hb1:∀ v∈a0,bdItem v):Den Tryz.prog 69 [encL 2 eItem a0] (ownL 153 2 eItem (zdb a0)):=by
 generalize hR:zdb a0=r
 unfold zdb at hR
 refine di Tryz.func69 Tryz.ntmps69 Tryz.results69 ?_
 intro c hL hc hk
 obtain⟨hL0,_⟩:=hL
 have hw0:a0.length<9223372036854775808:=Nat.lt_succ_of_le (yf hL0).1
 have hw1:∀ v∈a0,bwItem v:=fun v hv=>ybb v ((yf hL0).2 v hv)
 clear hL0
 simp only[pars,Nat.zero_add]
 iterate 3 refine rS ?_
 refine AWP.block ?_
 generalize hz1:yd (ybq a0) (a0.length-0) 0 (List.replicate a0.length (default:Item))=z1 at hR
 refine AWP.range (ybq a0) (fun i1 s1=>⟨[(0,encL 2 eItem a0),(3,.ref 0 2 0 s1.length),(4,.int .i64 (i1:Int))],[.arr 153 2 s1.length (fun j=>eItem (s1.getD j default))]⟩) (fun i1 s1=>s1.length=(List.replicate a0.length (default:Item)).length) (a0.length) 0 (List.replicate a0.length (default:Item)) [0] hz1 ot wt sm ?_
 clear hz1
 intro i1 s1 hi1 hW1 hz1
 refine rS ?_
 refine AWP.cond rfl (fun hb => ?_) (fun hb => ?_)
 ·have hlt1:i1<a0.length:=ot
  rw[yh hlt1]at hz1;simp only[ybq]at hz1
  iterate 2 refine rS ?_
  exact⟨_,[0],hlt1,wt,hz1,sm⟩
 ·obtain rfl:i1=a0.length:=ot
  rw[yg (Nat.le_refl _)]at hz1;subst hz1;dsimp only at hR
  refine AWP.exit ?_;refine yb ?_
  refine rS ?_
  refine AWP.ret ?_
  subst hR
  exact es
end N69
def D_zdb : DF
 | [x0]=>some (ownL 153 2 eItem (zdb (rdL yhb x0)),false,[wL 2 eItem yhb x0,(rdL yhb x0).length<1099511627776,∀ v∈(rdL yhb x0),bdItem v])
 | _=>none
theorem yl3:OkD Tryz.prog 69 D_zdb:=by unfold D_zdb;exact dk N69.den
end Go.Ab

namespace Go.Ab
open Go Go.Proofs
theorem y26 (v:Item):zle v=v:=by
 unfold zle
 rfl
end Go.Ab

namespace Go.Ab
open Go Go.Proofs
theorem ysy (a:List Item):zdb a=a:=by
 unfold zdb
 rw[yxv (b:=ybq a) (fun i=>zle (a.getD i default)) (by simp) (fun i s _=>rfl)]
 simp only[y26]
 exact y5b a
end Go.Ab

namespace Go.Ab
open Go Go.Proofs
def zdf (a0:Item) (a1:Item):Bool:=
 (bif (a0.Key != a1.Key)then false else(bif (a0.Text != a1.Text)then false else true))
namespace N119
theorem DD:DOk Tryz.prog (Go.Ab.DD []):=ye _
theorem den (a0:Item) (a1:Item)  : Den Tryz.prog 119 [.agg (eItem a0),.agg (eItem a1)] (.bool (zdf a0 a1)):=by
 generalize hR:zdf a0 a1=r
 unfold zdf at hR
 refine di Tryz.func119 Tryz.ntmps119 Tryz.results119 ?_
 intro c hL hc hk
 obtain⟨hL0,hL1,_⟩:=hL
 have hw0:bwItem a0:=ybb a0 hL0
 have hw1:bwItem a1:=ybb a1 hL1
 clear hL0 hL1
 simp only[pars,Nat.zero_add]
 iterate 2 refine rS ?_
 refine AWP.cond rfl (fun hb => ?_) (fun hb => ?_)
 ·replace hR:=ct hR
  refine rS ?_
  refine AWP.ret ?_
  subst hR
  exact es
 ·replace hR:=cf hR
  refine rS ?_
  refine AWP.cond rfl (fun hb => ?_) (fun hb => ?_)
  ·replace hR:=ct hR
   refine rS ?_
   refine AWP.ret ?_
   subst hR
   exact es
  ·replace hR:=cf hR
   refine rS ?_
   refine AWP.ret ?_
   subst hR
   exact es
end N119
def D_zdf : DF
 | [x0,x1]=>some (.bool (zdf (rdG yhb x0) (rdG yhb x1)),false,[wG eItem yhb x0,wG eItem yhb x1])
 | _=>none
theorem yj3:OkD Tryz.prog 119 D_zdf:=by unfold D_zdf;exact dk N119.den
end Go.Ab

namespace Go.Ab
open Go Go.Proofs
def yfm (a0:(List Item)) (a1:(List Item)) (i1:Nat) (s1:Unit):Except (Bool) (Unit):=
 (bif (!(zdf (a0.getD i1 default) (a1.getD i1 default)))then .error false else .ok ())
def zhd (a0:(List Item)) (a1:(List Item)):Bool:=
 (bif ((a0.length:Int) != (a1.length:Int))then false else(match yd (yfm a0 a1) (a0.length-0) 0 ()with|.error e=>e|.ok s1=>true))
namespace N38
theorem DD:DOk Tryz.prog (Go.Ab.DD [(119,dP D_zdf)]):=ya yj3.e <| ye _
theorem dn:type_of% (@D_zdf.eq_1):=by and_intros<;>intros<;>rfl
theorem den (a0:(List Item)) (a1:(List Item))  : Den Tryz.prog 38 [encL 2 eItem a0,encL 2 eItem a1] (.bool (zhd a0 a1)):=by
 generalize hR:zhd a0 a1=r
 unfold zhd at hR
 refine di Tryz.func38 Tryz.ntmps38 Tryz.results38 ?_
 intro c hL hc hk
 obtain⟨hL0,hL1,_⟩:=hL
 have hw0:a0.length<9223372036854775808:=Nat.lt_succ_of_le (yf hL0).1
 have hw1:∀ v∈a0,bwItem v:=fun v hv=>ybb v ((yf hL0).2 v hv)
 have hw2:a1.length<9223372036854775808:=Nat.lt_succ_of_le (yf hL1).1
 have hw3:∀ v∈a1,bwItem v:=fun v hv=>ybb v ((yf hL1).2 v hv)
 clear hL0 hL1
 simp only[pars,Nat.zero_add]
 iterate 2 refine rS ?_
 refine AWP.cond rfl (fun hb => ?_) (fun hb => ?_)
 ·replace hR:=ct hR
  refine rS ?_
  refine AWP.ret ?_
  subst hR
  exact es
 ·replace hR:=cf hR
  refine rS ?_
  refine AWP.block ?_
  generalize hz1:yd (yfm a0 a1) (a0.length-0) 0 ()=z1 at hR
  refine AWP.range (yfm a0 a1) (fun i1 s1=>⟨[(0,encL 2 eItem a0),(1,encL 2 eItem a1),(5,.int .i64 (i1:Int))],[]⟩) (fun i1 s1=>True) (a0.length) 0 () [] hz1 ot wt sm ?_
  clear hz1
  intro i1 s1 hi1 hW1 hz1
  refine rS ?_
  refine AWP.cond rfl (fun hb => ?_) (fun hb => ?_)
  ·have hlt1:i1<a0.length:=ot
   rw[yh hlt1]at hz1;simp only[yfm]at hz1
   refine rD 8 ?_
   refine AWP.cond rfl (fun hb => ?_) (fun hb => ?_)
   ·simp only[hb,cond_true]at hz1
    refine rS ?_
    refine AWP.ret ?_
    subst hz1
    dsimp only at hR
    subst hR
    exact es
   ·simp only[hb,cond_false]at hz1
    refine rS ?_
    exact⟨_,[],hlt1,wt,hz1,sm⟩
  ·obtain rfl:i1=a0.length:=ot
   rw[yg (Nat.le_refl _)]at hz1;subst hz1;dsimp only at hR
   refine AWP.exit ?_;refine yb ?_
   refine rS ?_
   refine AWP.ret ?_
   subst hR
   exact es
end N38
def D_zhd : DF
 | [x0,x1]=>some (.bool (zhd (rdL yhb x0) (rdL yhb x1)),false,[wL 2 eItem yhb x0,wL 2 eItem yhb x1])
 | _=>none
theorem yg0:OkD Tryz.prog 38 D_zhd:=by unfold D_zhd;exact dk N38.den
end Go.Ab

namespace Go.Ab
open Go Go.Proofs
theorem y94 (a b:Item):zdf a b=decide (a=b):=by
 unfold zdf
 skip
 by_cases h:a=b
 ·subst h;simp
 ·rw[decide_eq_false h]
  cases a;cases b
  simp only[Item.mk.injEq]at h
  simp only[bne_iff_ne,Bool.cond_eq_ite,ite_eq_right_iff]
  (repeat' split)<;>simp_all
end Go.Ab

namespace Go.Ab
open Go Go.Proofs
theorem yn5 (a b:List Item):zhd a b=decide (a=b):=by
 unfold zhd
 by_cases hl:a.length=b.length
 ·have h1:((a.length:Int) != (b.length:Int))=false:=by simp[hl]
  rw[h1,cond_false,yjc (b:=yfm a b) (fun j => !decide (a.getD j default=b.getD j default)) false (fun j u _ _=>by simp only[yfm,y94])]
  simp only[Nat.sub_zero,Nat.zero_add]
  rw[ycm a b hl]
  by_cases h:a=b<;>simp[h]
 ·have h1:((a.length:Int) != (b.length:Int))=true:=by simp;omega
  have h2:¬ a=b:=fun e=>hl (by rw[e])
  rw[h1,cond_true,decide_eq_false h2]
end Go.Ab

namespace Go.Ab
open Go Go.Proofs
def zef (a0:Point) (a1:Point):Bool:=
 (bif (a0.X != a1.X)then false else(bif (a0.Y != a1.Y)then false else true))
namespace N110
theorem DD:DOk Tryz.prog (Go.Ab.DD []):=ye _
theorem den (a0:Point) (a1:Point)  : Den Tryz.prog 110 [.agg (y3c a0),.agg (y3c a1)] (.bool (zef a0 a1)):=by
 generalize hR:zef a0 a1=r
 unfold zef at hR
 refine di Tryz.func110 Tryz.ntmps110 Tryz.results110 ?_
 intro c hL hc hk
 clear hL
 simp only[pars,Nat.zero_add]
 iterate 2 refine rS ?_
 refine AWP.cond rfl (fun hb => ?_) (fun hb => ?_)
 ·replace hR:=ct hR
  refine rS ?_
  refine AWP.ret ?_
  subst hR
  exact es
 ·replace hR:=cf hR
  refine rS ?_
  refine AWP.cond rfl (fun hb => ?_) (fun hb => ?_)
  ·replace hR:=ct hR
   refine rS ?_
   refine AWP.ret ?_
   subst hR
   exact es
  ·replace hR:=cf hR
   refine rS ?_
   refine AWP.ret ?_
   subst hR
   exact es
end N110
def D_zef : DF
 | [x0,x1]=>some (.bool (zef (rdG yye x0) (rdG yye x1)),false,[wG y3c yye x0,wG y3c yye x1])
 | _=>none
theorem yf1:OkD Tryz.prog 110 D_zef:=by unfold D_zef;exact dk N110.den
end Go.Ab

namespace Go.Ab
open Go Go.Proofs
def zff (a0:Mark) (a1:Mark):Bool:=
 (bif (a0.Kind != a1.Kind)then false else(bif (a0.Colors != a1.Colors)then false else(bif (a0.Shape != a1.Shape)then false else(bif (a0.Topmark != a1.Topmark)then false else true))))
namespace N111
theorem DD:DOk Tryz.prog (Go.Ab.DD []):=ye _
theorem den (a0:Mark) (a1:Mark)  : Den Tryz.prog 111 [.agg (y6c a0),.agg (y6c a1)] (.bool (zff a0 a1)):=by
 generalize hR:zff a0 a1=r
 unfold zff at hR
 refine di Tryz.func111 Tryz.ntmps111 Tryz.results111 ?_
 intro c hL hc hk
 obtain⟨hL0,hL1,_⟩:=hL
 have hw0:bwMark a0:=ycd a0 hL0
 have hw1:bwMark a1:=ycd a1 hL1
 clear hL0 hL1
 simp only[pars,Nat.zero_add]
 iterate 2 refine rS ?_
 refine AWP.cond rfl (fun hb => ?_) (fun hb => ?_)
 ·replace hR:=ct hR
  refine rS ?_
  refine AWP.ret ?_
  subst hR
  exact es
 ·replace hR:=cf hR
  refine rS ?_
  refine AWP.cond rfl (fun hb => ?_) (fun hb => ?_)
  ·replace hR:=ct hR
   refine rS ?_
   refine AWP.ret ?_
   subst hR
   exact es
  ·replace hR:=cf hR
   refine rS ?_
   refine AWP.cond rfl (fun hb => ?_) (fun hb => ?_)
   ·replace hR:=ct hR
    refine rS ?_
    refine AWP.ret ?_
    subst hR
    exact es
   ·replace hR:=cf hR
    refine rS ?_
    refine AWP.cond rfl (fun hb => ?_) (fun hb => ?_)
    ·replace hR:=ct hR
     refine rS ?_
     refine AWP.ret ?_
     subst hR
     exact es
    ·replace hR:=cf hR
     refine rS ?_
     refine AWP.ret ?_
     subst hR
     exact es
end N111
def D_zff : DF
 | [x0,x1]=>some (.bool (zff (rdG y4d x0) (rdG y4d x1)),false,[wG y6c y4d x0,wG y6c y4d x1])
 | _=>none
theorem yy1:OkD Tryz.prog 111 D_zff:=by unfold D_zff;exact dk N111.den
end Go.Ab

namespace Go.Ab
open Go Go.Proofs
def zgf (a0:Sector) (a1:Sector):Bool:=
 (bif (a0.From != a1.From)then false else(bif (a0.To != a1.To)then false else(bif (a0.Color != a1.Color)then false else true)))
namespace N221
theorem DD:DOk Tryz.prog (Go.Ab.DD []):=ye _
theorem den (a0:Sector) (a1:Sector)  : Den Tryz.prog 221 [.agg (ym a0),.agg (ym a1)] (.bool (zgf a0 a1)):=by
 generalize hR:zgf a0 a1=r
 unfold zgf at hR
 refine di Tryz.func221 Tryz.ntmps221 Tryz.results221 ?_
 intro c hL hc hk
 obtain⟨hL0,hL1,_⟩:=hL
 have hw0:bwSector a0:=yw a0 hL0
 have hw1:bwSector a1:=yw a1 hL1
 clear hL0 hL1
 simp only[pars,Nat.zero_add]
 iterate 2 refine rS ?_
 refine AWP.cond rfl (fun hb => ?_) (fun hb => ?_)
 ·replace hR:=ct hR
  refine rS ?_
  refine AWP.ret ?_
  subst hR
  exact es
 ·replace hR:=cf hR
  refine rS ?_
  refine AWP.cond rfl (fun hb => ?_) (fun hb => ?_)
  ·replace hR:=ct hR
   refine rS ?_
   refine AWP.ret ?_
   subst hR
   exact es
  ·replace hR:=cf hR
   refine rS ?_
   refine AWP.cond rfl (fun hb => ?_) (fun hb => ?_)
   ·replace hR:=ct hR
    refine rS ?_
    refine AWP.ret ?_
    subst hR
    exact es
   ·replace hR:=cf hR
    refine rS ?_
    refine AWP.ret ?_
    subst hR
    exact es
end N221
def D_zgf : DF
 | [x0,x1]=>some (.bool (zgf (rdG yq x0) (rdG yq x1)),false,[wG ym yq x0,wG ym yq x1])
 | _=>none
theorem yk3:OkD Tryz.prog 221 D_zgf:=by unfold D_zgf;exact dk N221.den
end Go.Ab

namespace Go.Ab
open Go Go.Proofs
def yvl (a0:(List Sector)) (a1:(List Sector)) (i1:Nat) (s1:Unit):Except (Bool) (Unit):=
 (bif (!(zgf (a0.getD i1 default) (a1.getD i1 default)))then .error false else .ok ())
def zod (a0:(List Sector)) (a1:(List Sector)):Bool:=
 (bif ((a0.length:Int) != (a1.length:Int))then false else(match yd (yvl a0 a1) (a0.length-0) 0 ()with|.error e=>e|.ok s1=>true))
namespace N113
theorem DD:DOk Tryz.prog (Go.Ab.DD [(221,dP D_zgf)]):=ya yk3.e <| ye _
theorem dn:type_of% (@D_zgf.eq_1):=by and_intros<;>intros<;>rfl
theorem den (a0:(List Sector)) (a1:(List Sector))  : Den Tryz.prog 113 [encL 3 ym a0,encL 3 ym a1] (.bool (zod a0 a1)):=by
 generalize hR:zod a0 a1=r
 unfold zod at hR
 refine di Tryz.func113 Tryz.ntmps113 Tryz.results113 ?_
 intro c hL hc hk
 obtain⟨hL0,hL1,_⟩:=hL
 have hw0:a0.length<9223372036854775808:=Nat.lt_succ_of_le (yf hL0).1
 have hw1:∀ v∈a0,bwSector v:=fun v hv=>yw v ((yf hL0).2 v hv)
 have hw2:a1.length<9223372036854775808:=Nat.lt_succ_of_le (yf hL1).1
 have hw3:∀ v∈a1,bwSector v:=fun v hv=>yw v ((yf hL1).2 v hv)
 clear hL0 hL1
 simp only[pars,Nat.zero_add]
 iterate 2 refine rS ?_
 refine AWP.cond rfl (fun hb => ?_) (fun hb => ?_)
 ·replace hR:=ct hR
  refine rS ?_
  refine AWP.ret ?_
  subst hR
  exact es
 ·replace hR:=cf hR
  refine rS ?_
  refine AWP.block ?_
  generalize hz1:yd (yvl a0 a1) (a0.length-0) 0 ()=z1 at hR
  refine AWP.range (yvl a0 a1) (fun i1 s1=>⟨[(0,encL 3 ym a0),(1,encL 3 ym a1),(5,.int .i64 (i1:Int))],[]⟩) (fun i1 s1=>True) (a0.length) 0 () [] hz1 ot wt sm ?_
  clear hz1
  intro i1 s1 hi1 hW1 hz1
  refine rS ?_
  refine AWP.cond rfl (fun hb => ?_) (fun hb => ?_)
  ·have hlt1:i1<a0.length:=ot
   rw[yh hlt1]at hz1;simp only[yvl]at hz1
   refine rD 8 ?_
   refine AWP.cond rfl (fun hb => ?_) (fun hb => ?_)
   ·simp only[hb,cond_true]at hz1
    refine rS ?_
    refine AWP.ret ?_
    subst hz1
    dsimp only at hR
    subst hR
    exact es
   ·simp only[hb,cond_false]at hz1
    refine rS ?_
    exact⟨_,[],hlt1,wt,hz1,sm⟩
  ·obtain rfl:i1=a0.length:=ot
   rw[yg (Nat.le_refl _)]at hz1;subst hz1;dsimp only at hR
   refine AWP.exit ?_;refine yb ?_
   refine rS ?_
   refine AWP.ret ?_
   subst hR
   exact es
end N113
def D_zod : DF
 | [x0,x1]=>some (.bool (zod (rdL yq x0) (rdL yq x1)),false,[wL 3 ym yq x0,wL 3 ym yq x1])
 | _=>none
theorem yq0:OkD Tryz.prog 113 D_zod:=by unfold D_zod;exact dk N113.den
end Go.Ab

namespace Go.Ab
open Go Go.Proofs
def zhf (a0:Aid) (a1:Aid):Bool:=
 (bif (a0.Number != a1.Number)then false else(bif (a0.Name != a1.Name)then false else(bif (!(zef a0.At a1.At))then false else(bif (a0.Height != a1.Height)then false else(bif (!(zff a0.Mark a1.Mark))then false else(bif (!(zcf a0.Light a1.Light))then false else(bif (!(zod a0.Sectors a1.Sectors))then false else(bif (a0.Intensity != a1.Intensity)then false else true))))))))
namespace N33
theorem DD:DOk Tryz.prog (Go.Ab.DD [(110,dP D_zef),(111,dP D_zff),(112,dP D_zcf),(113,dP D_zod)]):=ya yf1.e <| ya yy1.e <| ya yt1.e <| ya yq0.e <| ye _
theorem dn:type_of% (And.intro @D_zef.eq_1 <| And.intro @D_zff.eq_1 <| And.intro @D_zcf.eq_1 <| @D_zod.eq_1):=by and_intros<;>intros<;>rfl
theorem den (a0:Aid) (a1:Aid)  : Den Tryz.prog 33 [.agg (eAid a0),.agg (eAid a1)] (.bool (zhf a0 a1)):=by
 generalize hR:zhf a0 a1=r
 unfold zhf at hR
 refine di Tryz.func33 Tryz.ntmps33 Tryz.results33 ?_
 intro c hL hc hk
 obtain⟨hL0,hL1,_⟩:=hL
 have hw0:bwAid a0:=yuc a0 hL0
 have hw1:bwAid a1:=yuc a1 hL1
 clear hL0 hL1
 simp only[pars,Nat.zero_add]
 iterate 2 refine rS ?_
 refine AWP.cond rfl (fun hb => ?_) (fun hb => ?_)
 ·replace hR:=ct hR
  refine rS ?_
  refine AWP.ret ?_
  subst hR
  exact es
 ·replace hR:=cf hR
  refine rS ?_
  refine AWP.cond rfl (fun hb => ?_) (fun hb => ?_)
  ·replace hR:=ct hR
   refine rS ?_
   refine AWP.ret ?_
   subst hR
   exact es
  ·replace hR:=cf hR
   refine rS ?_
   refine AWP.cond rfl (fun hb => ?_) (fun hb => ?_)
   ·replace hR:=ct hR
    refine rS ?_
    refine AWP.ret ?_
    subst hR
    exact es
   ·replace hR:=cf hR
    refine rS ?_
    refine AWP.cond rfl (fun hb => ?_) (fun hb => ?_)
    ·replace hR:=ct hR
     refine rS ?_
     refine AWP.ret ?_
     subst hR
     exact es
    ·replace hR:=cf hR
     refine rS ?_
     refine AWP.cond rfl (fun hb => ?_) (fun hb => ?_)
     ·replace hR:=ct hR
      refine rS ?_
      refine AWP.ret ?_
      subst hR
      exact es
     ·replace hR:=cf hR
      refine rS ?_
      refine AWP.cond rfl (fun hb => ?_) (fun hb => ?_)
      ·replace hR:=ct hR
       refine rS ?_
       refine AWP.ret ?_
       subst hR
       exact es
      ·replace hR:=cf hR
       refine rS ?_
       refine AWP.cond rfl (fun hb => ?_) (fun hb => ?_)
       ·replace hR:=ct hR
        refine rS ?_
        refine AWP.ret ?_
        subst hR
        exact es
       ·replace hR:=cf hR
        refine rS ?_
        refine AWP.cond rfl (fun hb => ?_) (fun hb => ?_)
        ·replace hR:=ct hR
         refine rS ?_
         refine AWP.ret ?_
         subst hR
         exact es
        ·replace hR:=cf hR
         refine rS ?_
         refine AWP.ret ?_
         subst hR
         exact es
end N33
def D_zhf : DF
 | [x0,x1]=>some (.bool (zhf (rdG dAid x0) (rdG dAid x1)),false,[wG eAid dAid x0,wG eAid dAid x1])
 | _=>none
theorem yq2:OkD Tryz.prog 33 D_zhf:=by unfold D_zhf;exact dk N33.den
end Go.Ab

namespace Go.Ab
open Go Go.Proofs
def ykm (a0:(List Aid)) (a1:(List Aid)) (i1:Nat) (s1:Unit):Except (Bool) (Unit):=
 (bif (!(zhf (a0.getD i1 default) (a1.getD i1 default)))then .error false else .ok ())
def zad (a0:(List Aid)) (a1:(List Aid)):Bool:=
 (bif ((a0.length:Int) != (a1.length:Int))then false else(match yd (ykm a0 a1) (a0.length-0) 0 ()with|.error e=>e|.ok s1=>true))
namespace N39
theorem DD:DOk Tryz.prog (Go.Ab.DD [(33,dP D_zhf)]):=ya yq2.e <| ye _
theorem dn:type_of% (@D_zhf.eq_1):=by and_intros<;>intros<;>rfl
theorem den (a0:(List Aid)) (a1:(List Aid))  : Den Tryz.prog 39 [encL 16 eAid a0,encL 16 eAid a1] (.bool (zad a0 a1)):=by
 generalize hR:zad a0 a1=r
 unfold zad at hR
 refine di Tryz.func39 Tryz.ntmps39 Tryz.results39 ?_
 intro c hL hc hk
 obtain⟨hL0,hL1,_⟩:=hL
 have hw0:a0.length<9223372036854775808:=Nat.lt_succ_of_le (yf hL0).1
 have hw1:∀ v∈a0,bwAid v:=fun v hv=>yuc v ((yf hL0).2 v hv)
 have hw2:a1.length<9223372036854775808:=Nat.lt_succ_of_le (yf hL1).1
 have hw3:∀ v∈a1,bwAid v:=fun v hv=>yuc v ((yf hL1).2 v hv)
 clear hL0 hL1
 simp only[pars,Nat.zero_add]
 iterate 2 refine rS ?_
 refine AWP.cond rfl (fun hb => ?_) (fun hb => ?_)
 ·replace hR:=ct hR
  refine rS ?_
  refine AWP.ret ?_
  subst hR
  exact es
 ·replace hR:=cf hR
  refine rS ?_
  refine AWP.block ?_
  generalize hz1:yd (ykm a0 a1) (a0.length-0) 0 ()=z1 at hR
  refine AWP.range (ykm a0 a1) (fun i1 s1=>⟨[(0,encL 16 eAid a0),(1,encL 16 eAid a1),(5,.int .i64 (i1:Int))],[]⟩) (fun i1 s1=>True) (a0.length) 0 () [] hz1 ot wt sm ?_
  clear hz1
  intro i1 s1 hi1 hW1 hz1
  refine rS ?_
  refine AWP.cond rfl (fun hb => ?_) (fun hb => ?_)
  ·have hlt1:i1<a0.length:=ot
   rw[yh hlt1]at hz1;simp only[ykm]at hz1
   refine rD 8 ?_
   refine AWP.cond rfl (fun hb => ?_) (fun hb => ?_)
   ·simp only[hb,cond_true]at hz1
    refine rS ?_
    refine AWP.ret ?_
    subst hz1
    dsimp only at hR
    subst hR
    exact es
   ·simp only[hb,cond_false]at hz1
    refine rS ?_
    exact⟨_,[],hlt1,wt,hz1,sm⟩
  ·obtain rfl:i1=a0.length:=ot
   rw[yg (Nat.le_refl _)]at hz1;subst hz1;dsimp only at hR
   refine AWP.exit ?_;refine yb ?_
   refine rS ?_
   refine AWP.ret ?_
   subst hR
   exact es
end N39
def D_zad : DF
 | [x0,x1]=>some (.bool (zad (rdL dAid x0) (rdL dAid x1)),false,[wL 16 eAid dAid x0,wL 16 eAid dAid x1])
 | _=>none
theorem yl2:OkD Tryz.prog 39 D_zad:=by unfold D_zad;exact dk N39.den
end Go.Ab

namespace Go.Ab
open Go Go.Proofs
theorem y44 (a b:Point):zef a b=decide (a=b):=by
 unfold zef
 skip
 by_cases h:a=b
 ·subst h;simp
 ·rw[decide_eq_false h]
  cases a;cases b
  simp only[Point.mk.injEq]at h
  simp only[bne_iff_ne,Bool.cond_eq_ite,ite_eq_right_iff]
  (repeat' split)<;>simp_all
end Go.Ab

namespace Go.Ab
open Go Go.Proofs
theorem y35 (a b:Mark):zff a b=decide (a=b):=by
 unfold zff
 skip
 by_cases h:a=b
 ·subst h;simp
 ·rw[decide_eq_false h]
  cases a;cases b
  simp only[Mark.mk.injEq]at h
  simp only[bne_iff_ne,Bool.cond_eq_ite,ite_eq_right_iff]
  (repeat' split)<;>simp_all
end Go.Ab

namespace Go.Ab
open Go Go.Proofs
theorem yh6 (a b:List Int):znd a b=decide (a=b):=by
 unfold znd
 by_cases hl:a.length=b.length
 ·have h1:((a.length:Int) != (b.length:Int))=false:=by simp[hl]
  rw[h1,cond_false,yjc (b:=y1l a b) (fun j => !decide (a.getD j default=b.getD j default)) false (fun j u _ _=>by simp only[y1l,ned])]
  simp only[Nat.sub_zero,Nat.zero_add]
  rw[ycm a b hl]
  by_cases h:a=b<;>simp[h]
 ·have h1:((a.length:Int) != (b.length:Int))=true:=by simp;omega
  have h2:¬ a=b:=fun e=>hl (by rw[e])
  rw[h1,cond_true,decide_eq_false h2]
end Go.Ab

namespace Go.Ab
open Go Go.Proofs
theorem yj5 (a b:Character):zcf a b=decide (a=b):=by
 unfold zcf
 simp only[yh6]
 by_cases h:a=b
 ·subst h;simp
 ·rw[decide_eq_false h]
  cases a;cases b
  simp only[Character.mk.injEq]at h
  simp only[bne_iff_ne,Bool.cond_eq_ite,ite_eq_right_iff]
  (repeat' split)<;>simp_all
end Go.Ab

namespace Go.Ab
open Go Go.Proofs
theorem yd5 (a b:Sector):zgf a b=decide (a=b):=by
 unfold zgf
 skip
 by_cases h:a=b
 ·subst h;simp
 ·rw[decide_eq_false h]
  cases a;cases b
  simp only[Sector.mk.injEq]at h
  simp only[bne_iff_ne,Bool.cond_eq_ite,ite_eq_right_iff]
  (repeat' split)<;>simp_all
end Go.Ab

namespace Go.Ab
open Go Go.Proofs
theorem yy5 (a b:List Sector):zod a b=decide (a=b):=by
 unfold zod
 by_cases hl:a.length=b.length
 ·have h1:((a.length:Int) != (b.length:Int))=false:=by simp[hl]
  rw[h1,cond_false,yjc (b:=yvl a b) (fun j => !decide (a.getD j default=b.getD j default)) false (fun j u _ _=>by simp only[yvl,yd5])]
  simp only[Nat.sub_zero,Nat.zero_add]
  rw[ycm a b hl]
  by_cases h:a=b<;>simp[h]
 ·have h1:((a.length:Int) != (b.length:Int))=true:=by simp;omega
  have h2:¬ a=b:=fun e=>hl (by rw[e])
  rw[h1,cond_true,decide_eq_false h2]
end Go.Ab

namespace Go.Ab
open Go Go.Proofs
theorem ys5 (a b:Aid):zhf a b=decide (a=b):=by
 unfold zhf
 simp only[y44,y35,yj5,yy5]
 by_cases h:a=b
 ·subst h;simp
 ·rw[decide_eq_false h]
  cases a;cases b
  simp only[Aid.mk.injEq]at h
  simp only[bne_iff_ne,Bool.cond_eq_ite,ite_eq_right_iff]
  (repeat' split)<;>simp_all
end Go.Ab

namespace Go.Ab
open Go Go.Proofs
theorem y84 (a b:List Aid):zad a b=decide (a=b):=by
 unfold zad
 by_cases hl:a.length=b.length
 ·have h1:((a.length:Int) != (b.length:Int))=false:=by simp[hl]
  rw[h1,cond_false,yjc (b:=ykm a b) (fun j => !decide (a.getD j default=b.getD j default)) false (fun j u _ _=>by simp only[ykm,ys5])]
  simp only[Nat.sub_zero,Nat.zero_add]
  rw[ycm a b hl]
  by_cases h:a=b<;>simp[h]
 ·have h1:((a.length:Int) != (b.length:Int))=true:=by simp;omega
  have h2:¬ a=b:=fun e=>hl (by rw[e])
  rw[h1,cond_true,decide_eq_false h2]
end Go.Ab

namespace Go.Ab
open Go Go.Proofs
def zyd (a0:Item) (a1:Int):Int:=
 (bif decide ((IntKind.wrap .i64 (a1-(a0.Key.length:Int)))<0)then(-1)else(bif decide ((IntKind.wrap .i64 ((IntKind.wrap .i64 (a1-(a0.Key.length:Int)))-(a0.Text.length:Int)))<0)then(-1)else IntKind.wrap .i64 ((IntKind.wrap .i64 (a1-(a0.Key.length:Int)))-(a0.Text.length:Int))))
namespace N154
theorem DD:DOk Tryz.prog (Go.Ab.DD []):=ye _
theorem den (a0:Item) (a1:Int)  : Den Tryz.prog 154 [.agg (eItem a0),.int .i64 a1] (.int .i64 (zyd a0 a1)):=by
 generalize hR:zyd a0 a1=r
 unfold zyd at hR
 refine di Tryz.func154 Tryz.ntmps154 Tryz.results154 ?_
 intro c hL hc hk
 obtain⟨hL0,hL1,_⟩:=hL
 have hw0:bwItem a0:=ybb a0 hL0
 clear hL0 hL1
 simp only[pars,Nat.zero_add]
 iterate 3 refine rS ?_
 refine AWP.cond rfl (fun hb => ?_) (fun hb => ?_)
 ·replace hR:=ct hR
  refine rS ?_
  refine AWP.ret ?_
  subst hR
  exact es
 ·replace hR:=cf hR
  iterate 2 refine rS ?_
  refine AWP.cond rfl (fun hb => ?_) (fun hb => ?_)
  ·replace hR:=ct hR
   refine rS ?_
   refine AWP.ret ?_
   subst hR
   exact es
  ·replace hR:=cf hR
   refine rS ?_
   refine AWP.ret ?_
   subst hR
   exact es
end N154
def D_zyd : DF
 | [x0,x1]=>some (.int .i64 (zyd (rdG yhb x0) (rdI x1)),false,[wG eItem yhb x0,wI .i64 x1])
 | _=>none
theorem yo1:OkD Tryz.prog 154 D_zyd:=by unfold D_zyd;exact dk N154.den
end Go.Ab

namespace Go.Ab
open Go Go.Proofs
theorem ymx (x:Item) (n:Int) (h0 : -1≤n) (h1:n≤1048576) (hx:bwItem x) : -1≤zyd x n∧zyd x n≤n∧(¬ zyd x n<0→ybu x):=by
 obtain⟨b0,b1⟩:=hx
 unfold zyd
 have b0':x.Key.length<9223372036854775808:=b0
 rw[show IntKind.wrap .i64 (n-(x.Key.length:Int))=n-(x.Key.length:Int)from by rw[IntKind.wrap_i64];omega]
 by_cases c0:n-(x.Key.length:Int)<0
 ·rw[decide_eq_true c0];exact⟨by simp,by simpa using h0,fun h=>absurd (by simp) h⟩
 rw[decide_eq_false c0]
 simp only[cond_false]
 have b1':x.Text.length<9223372036854775808:=b1
 rw[show IntKind.wrap .i64 (n-(x.Key.length:Int)-(x.Text.length:Int))=n-(x.Key.length:Int)-(x.Text.length:Int)from by rw[IntKind.wrap_i64];omega]
 by_cases c1:n-(x.Key.length:Int)-(x.Text.length:Int)<0
 ·rw[decide_eq_true c1];exact⟨by simp,by simpa using h0,fun h=>absurd (by simp) h⟩
 rw[decide_eq_false c1]
 simp only[cond_false]
 exact⟨by omega,by omega,fun _=>⟨by omega,by omega⟩⟩
end Go.Ab

namespace Go.Ab
open Go Go.Proofs
def ynk (a0:(List Item)) (a1:Int) (i1:Nat) (s1:Int):Except (Int) (Int):=
 (bif decide ((zyd (a0.getD i1 default) s1)<0)then .error (-1)else .ok (zyd (a0.getD i1 default) s1))
def zzb (a0:(List Item)) (a1:Int):Int:=
 (bif decide ((IntKind.wrap .i64 (a1-(a0.length:Int)))<0)then(-1)else(match yd (ynk a0 a1) (a0.length-0) 0 (IntKind.wrap .i64 (a1-(a0.length:Int)))with|.error e=>e|.ok s1=>s1))
namespace N67
theorem DD:DOk Tryz.prog (Go.Ab.DD [(154,dP D_zyd)]):=ya yo1.e <| ye _
theorem dn:type_of% (@D_zyd.eq_1):=by and_intros<;>intros<;>rfl
theorem den (a0:(List Item)) (a1:Int)  : Den Tryz.prog 67 [encL 2 eItem a0,.int .i64 a1] (.int .i64 (zzb a0 a1)):=by
 generalize hR:zzb a0 a1=r
 unfold zzb at hR
 refine di Tryz.func67 Tryz.ntmps67 Tryz.results67 ?_
 intro c hL hc hk
 obtain⟨hL0,hL1,_⟩:=hL
 have hw0:a0.length<9223372036854775808:=Nat.lt_succ_of_le (yf hL0).1
 have hw1:∀ v∈a0,bwItem v:=fun v hv=>ybb v ((yf hL0).2 v hv)
 clear hL0 hL1
 simp only[pars,Nat.zero_add]
 iterate 3 refine rS ?_
 refine AWP.cond rfl (fun hb => ?_) (fun hb => ?_)
 ·replace hR:=ct hR
  refine rS ?_
  refine AWP.ret ?_
  subst hR
  exact es
 ·replace hR:=cf hR
  refine rS ?_
  refine AWP.block ?_
  generalize hz1:yd (ynk a0 a1) (a0.length-0) 0 (IntKind.wrap .i64 (a1-(a0.length:Int)))=z1 at hR
  refine AWP.range (ynk a0 a1) (fun i1 s1=>⟨[(0,encL 2 eItem a0),(1,.int .i64 s1),(5,.int .i64 (i1:Int))],[]⟩) (fun i1 s1=>True) (a0.length) 0 (IntKind.wrap .i64 (a1-(a0.length:Int))) [] hz1 ot wt sm ?_
  clear hz1
  intro i1 s1 hi1 hW1 hz1
  refine rS ?_
  refine AWP.cond rfl (fun hb => ?_) (fun hb => ?_)
  ·have hlt1:i1<a0.length:=ot
   rw[yh hlt1]at hz1;simp only[ynk]at hz1
   iterate 2 refine rS ?_
   refine AWP.cond rfl (fun hb => ?_) (fun hb => ?_)
   ·simp only[hb,cond_true]at hz1
    refine rS ?_
    refine AWP.ret ?_
    subst hz1
    dsimp only at hR
    subst hR
    exact es
   ·simp only[hb,cond_false]at hz1
    refine rS ?_
    exact⟨_,[],hlt1,wt,hz1,sm⟩
  ·obtain rfl:i1=a0.length:=ot
   rw[yg (Nat.le_refl _)]at hz1;subst hz1;dsimp only at hR
   refine AWP.exit ?_;refine yb ?_
   refine rS ?_
   refine AWP.ret ?_
   subst hR
   exact es
end N67
def D_zzb : DF
 | [x0,x1]=>some (.int .i64 (zzb (rdL yhb x0) (rdI x1)),false,[wL 2 eItem yhb x0,wI .i64 x1])
 | _=>none
theorem yh3:OkD Tryz.prog 67 D_zzb:=by unfold D_zzb;exact dk N67.den
end Go.Ab

namespace Go.Ab
open Go Go.Proofs
theorem ygp (a:List Item) (n:Int) (h0 : -1≤n) (h1:n≤1048576) (hl:a.length<9223372036854775808) (hx:∀ v∈a,bwItem v) :
  -1≤zzb a n∧zzb a n≤n∧(¬ zzb a n<0→a.length≤1048576∧∀ v∈a,ybu v):=by
 unfold zzb
 rw[show IntKind.wrap .i64 (n-(a.length:Int))=n-a.length from by rw[IntKind.wrap_i64];omega]
 by_cases c:n-(a.length:Int)<0
 ·rw[decide_eq_true c];exact⟨by simp,by simpa using h0,fun h=>absurd (by simp) h⟩
 ·rw[decide_eq_false c]
  simp only[cond_false]
  split
  ·rename_i e h
   obtain⟨j,t,_,_,h3⟩:=ypc h
   simp only[ynk]at h3
   have:e = -1:=by
    cases hq:decide (zyd (a.getD j default) t<0)with
    | true=>rw[hq]at h3;simpa using h3.symm
    | false=>rw[hq]at h3;simp at h3
   omega
  ·rename_i s h
   have:=yio (b:=ynk a n) (fun i s => -1≤s∧s≤n-a.length∧∀ j,j<i→ybu (a.getD j default)) ⟨by omega,by omega,by intro j hj;omega⟩ (by
    intro j u v h1 h2 ⟨h3,h4,h5⟩ h6
    simp only[ynk]at h6
    have hb:bwItem (a.getD j default):=y8k hx (by decide) j
    have hf:=ymx (a.getD j default) u h3 (by omega) hb
    cases hq:decide (zyd (a.getD j default) u<0)with
    | true=>rw[hq]at h6;simp at h6
    | false=>
     rw[hq]at h6
     simp only[cond_false,Except.ok.injEq]at h6
     subst h6
     refine⟨by omega,by omega,fun q hq2 => ?_⟩
     by_cases hqj:q=j
     ·subst hqj;exact hf.2.2 (of_decide_eq_false hq)
     ·exact h5 q (by omega)) h
   refine⟨by omega,by omega,fun _=>⟨by omega,fun v hv => ?_⟩⟩
   obtain⟨i,hi,rfl⟩:=List.getElem_of_mem hv
   have:=this.2.2 i (by omega)
   simpa [List.getD_eq_getElem?_getD,hi]using this
end Go.Ab

namespace Go.Ab
open Go Go.Proofs
def y9l (a0:(List Item)) (a1:Int) (i1:Nat) (s1:Int×List Item):Except (Int×(List Item)) (Int×List Item):=
 .ok (IntKind.wrap .i64 ((IntKind.wrap .i64 (s1.1+1))+1),s1.2.set i1 ({ Key:=(zq s1.1),Text:=(zq (IntKind.wrap .i64 (s1.1+1))):Item }))
def zcb (a0:(List Item)) (a1:Int):Int×(List Item):=
 (match yd (y9l a0 a1) (a0.length-0) 0 (a1,a0)with|.error e=>e|.ok s1=>(s1.1,s1.2))
namespace N41
theorem DD:DOk Tryz.prog (Go.Ab.DD [(120,dP D_zq)]):=ya yfk.e <| ye _
theorem dn:type_of% (@D_zq.eq_1):=by and_intros<;>intros<;>rfl
theorem den (a0:(List Item)) (a1:Int) (hp0:0≤a1) (hp1:a1≤1152921504606846976) (hp2:a0.length<1099511627776):DenM Tryz.prog 41 [ownL 153 2 eItem a0,.int .i64 a1] (.int .i64 ((zcb a0 a1).1)) [(ownL 153 2 eItem ((zcb a0 a1).2)),.any]:=by
 generalize hR:zcb a0 a1=r
 unfold zcb at hR
 refine dj (gb:=[true,false]) Tryz.func41 Tryz.ntmps41 Tryz.results41 ?_
 intro c hL hc hk
 obtain⟨hL0,hL1,_⟩:=hL
 have hw0:a0.length<9223372036854775808:=Nat.lt_succ_of_le (yac hL0).1
 have hw1:∀ v∈a0,bwItem v:=fun v hv=>ybb v ((yac hL0).2 v hv)
 clear hL0 hL1
 simp only[adEL,adE,adRL,adR,ownL,encL,sv,List.nil_append,List.append_nil,List.cons_append,List.length_cons,List.length_nil,pars,Nat.zero_add,Nat.reduceAdd]at hk ⊢
 iterate 2 refine rS ?_
 refine AWP.block ?_
 generalize hz1:yd (y9l a0 a1) (a0.length-0) 0 (a1,a0)=z1 at hR
 refine AWP.range (y9l a0 a1) (fun i1 s1=>⟨[(0,.ref 0 2 0 s1.2.length),(1,.int .i64 s1.1),(5,.int .i64 (i1:Int))],[.arr 153 2 s1.2.length (fun j=>eItem (s1.2.getD j default))]⟩) (fun i1 s1=>s1.2.length=a0.length∧0≤s1.1∧s1.1≤a1+2 * i1) (a0.length) 0 (a1,a0) [0] hz1 ot wt sm ?_
 clear hz1
 intro i1 s1 hi1 hW1 hz1
 refine rS ?_
 refine AWP.cond rfl (fun hb => ?_) (fun hb => ?_)
 ·have hlt1:i1<a0.length:=ot
  rw[yh hlt1]at hz1;simp only[y9l]at hz1
  iterate 5 refine rS ?_
  exact⟨_,[0],hlt1,wt,hz1,sm⟩
 ·obtain rfl:i1=a0.length:=ot
  rw[yg (Nat.le_refl _)]at hz1;subst hz1;dsimp only at hR
  refine AWP.exit ?_;refine yb ?_
  refine rS ?_
  refine AWP.ret ?_
  subst hR
  exact es
end N41
def D_zcb : List AV → Option (AV × List AV × List Prop)
 | [x0,x1]=>some (.int .i64 ((zcb (rdL yhb x0) (rdI x1)).1),[(ownL 153 2 eItem ((zcb (rdL yhb x0) (rdI x1)).2)),.any],[wO 153 2 eItem yhb x0,wI .i64 x1,0≤(rdI x1),(rdI x1)≤1152921504606846976,(rdL yhb x0).length<1099511627776])
 | _=>none
theorem yf2:OkM Tryz.prog 41 D_zcb:=by unfold D_zcb;exact dm N41.den
end Go.Ab

namespace Go.Ab
open Go Go.Proofs
def ydy (v:Int):Item:=⟨(zq v),(zq (v+1))⟩
theorem yym (a:List Item) (k:Int):(zcb a k).2.length=a.length:=by
 unfold zcb
 obtain⟨t,h1,h2⟩:=yu (b:=y9l a k) (fun _ s=>s.2.length=a.length) (k:=a.length-0) (i:=0) (s:=(k,a)) rfl (by
  intro j u _ _ h
  exact⟨_,rfl,by simpa using h⟩)
 rw[h1]
 exact h2
theorem y9y (a:List Item) (k:Int):subL (zcb a k).2 0 a.length=(zcb a k).2:=by
 rw[← yym a k];exact yyf _
theorem yj7 (a:List Item) (k:Int) (h0:0≤k) (h1:k+2 * a.length<4611686018427387904):zcb a k=(k+2 * a.length,(List.range a.length).map (fun j:Nat=>ydy (k+2 * j))):=by
 unfold zcb
 obtain⟨t,q1,q2,q3,q4⟩:=yu (b:=y9l a k) (fun i s=>s.1=k+2 * i∧s.2.length=a.length∧∀ j,j<i→s.2.getD j default=ydy (k+2 * j)) (k:=a.length-0) (i:=0) (s:=(k,a)) ⟨by simp,rfl,by intro j hj;omega⟩ (by
  intro j u _ hj ⟨h2,h3,h4⟩
  have w1:∀ m:Int,0≤m→m<4611686018427387904→IntKind.wrap .i64 (m+1)=m+1:=by intro m _ _;rw[IntKind.wrap_i64];omega
  have w0:∀ m:Int,0≤m→m<4611686018427387904→IntKind.wrap .i64 m=m:=by intro m _ _;rw[IntKind.wrap_i64];omega
  refine⟨_,rfl,?_,?_,?_⟩
  ·simp only[h2,IntKind.wrap_i64];omega
  ·simpa using h3
  ·intro q hq
   simp only
   rw[yzd]
   by_cases h:q=j
   ·subst h
    rw[if_pos ⟨rfl,by omega⟩,h2]
    simp only[ydy]
    all_goals (try rw[Item.mk.injEq])
    all_goals (and_intros<;>first|rfl|trivial|(simp only[IntKind.wrap_i64];omega)|(congr 1;(simp only[IntKind.wrap_i64];omega)))
   ·rw[if_neg (fun hh=>h hh.1)]
    exact h4 q (by omega))
 rw[q1]
 simp only[Nat.zero_add,Nat.sub_zero]at q2 q4
 simp only[q2]
 congr 1
 apply ydj
 ·simpa using q3
 ·intro i hi
  rw[q4 i (by omega)]
  simp[List.getD_eq_getElem?_getD]
  rw[List.getElem?_range (by omega)]
  rfl
theorem yb8 (a:List Item) (k:Int) (h0:0≤k) (h1:k≤1152921504606846976) (hl:a.length<1099511627776):(zcb a k).1=k+2 * a.length:=by
 rw[yj7 a k h0 (by omega)]
end Go.Ab
