/- A part of a proof: walks of functions and lemmas of our own. No conditions. -/
import Derived.Test.YtopoomikfjodkaaGreatDoorVBg
import Derived.Test.YtopoomikfjodkaaGreatDoorVAp
import Derived.Test.YtopoomikfjodkaaGreatDoorVAt
import Derived.Test.YtopoomikfjodkaaGreatDoorVAl
import Derived.Test.YtopoomikfjodkaaGreatDoorVAz
import Derived.Test.YtopoomikfjodkaaGreatDoorVBf
import Derived.Test.YtopoomikfjodkaaGreatDoorVAy
import Derived.Test.YtopoomikfjodkaaGreatDoorVBl
import Derived.Test.YtopoomikfjodkaaGreatDoorVAi
import Derived.Test.YtopoomikfjodkaaGreatDoorVAk
import Derived.Test.YtopoomikfjodkaaGreatDoorVBi
import Derived.Test.YtopoomikfjodkaaGreatDoorVBk
import Derived.Test.YtopoomikfjodkaaGreatDoorVBd
import Derived.Test.YtopoomikfjodkaaGreatDoorVAn
set_option linter.unusedSectionVars false
set_option linter.unusedVariables false
set_option linter.unusedSimpArgs false
set_option maxHeartbeats 1000000
namespace Go.Ab
open Go Go.Proofs
def ych (n:Int):List UInt8:=List.replicate (4-(Lib.itoa n).length) 48++Lib.itoa n
theorem yl0 (k:Nat):Lib.repeatL [48] k=List.replicate k 48:=by
 induction k with
 | zero=>rfl
 | succ k ih=>simp[Lib.repeatL,ih,List.replicate_succ]
theorem y2r (n:Int) (h1:1≤n) (h2:n≤9999):zob n 4=ych n:=by
 have hl:=yge n 3 (by omega) (by show n<(10000:Int);omega)
 unfold zob ych zrd
 rw[y1q]
 have hw:IntKind.wrap .i64 (4-((Lib.itoa n).length:Int))=4-((Lib.itoa n).length:Int):=by rw[IntKind.wrap_i64];omega
 rw[hw,yl0]
 congr 2
 split<;>omega
theorem y1p (n:Int) (h1:1≤n) (h2:n≤9999):(zob n 4).length≤10:=by
 have hl:=yge n 3 (by omega) (by show n<(10000:Int);omega)
 rw[y2r n h1 h2]
 unfold ych
 rw[List.length_append,List.length_replicate]
 omega
end Go.Ab

namespace Go.Ab
open Go Go.Proofs
def ytj (a0:Int) (s1:List UInt8):Except (Sum ((List UInt8)) (List UInt8)) (List UInt8):=
 (bif decide ((s1.length:Int)<4)then .ok ([48]++s1)else .error (.inr s1))
def zad (a0:Int):(List UInt8):=
 (match ynb (ytj a0) (((4-((za a0)).length))+1) (za a0)with|.error (.inl e)=>e|.error (.inr s1)=>[110]++s1|.ok _=>default)
namespace N115
theorem DD:DOk Tryz.prog (Go.Ab.DD [(166,dP D_za)]):=ya ytc.e <| yd _
theorem dn:type_of% (@D_za.eq_1):=by and_intros<;>intros<;>rfl
set_option maxHeartbeats 1000000 in
set_option maxRecDepth 20000 in
theorem den (a0:Int) (hp0:1≤a0) (hp1:a0≤9999):Den Tryz.prog 115 [.int .i64 a0] (.str (zad a0)):=by
 generalize hR:zad a0=r
 unfold zad at hR
 refine di Tryz.func115 Tryz.ntmps115 Tryz.results115 ?_
 intro c hL hc hk
 clear hL
 simp only[pars,Nat.zero_add]
 have l1:=y0b a0 (by omega) (by omega)
 iterate 2 refine rS ?_
 refine AWP.seq ?_
 refine AWP.block ?_
 generalize hz1:ynb (ytj a0) (((4-((za a0)).length))+1) (za a0)=z1 at hR
 refine AWP.whileW (ytj a0) (fun s1=>⟨[(3,.str s1)],[]⟩) (fun s1=>s1.length≤20000) (fun s1=>(4-(s1).length)) (((4-((za a0)).length))+1) (za a0) [] hz1 m0 wt sm ?_
 clear hz1
 intro s1 k1 hW1 hm1 hz1
 simp only[ytj]at hz1
 refine rS ?_
 refine AWP.cond rfl (fun hb => ?_) (fun hb => ?_)
 ·simp only[hb,cond_true]at hz1
  refine rS ?_
  exact⟨_,[],ms,wt,hz1,sm⟩
 ·simp only[hb,cond_false]at hz1
  refine AWP.exit ?_
  refine yb ?_
  subst hz1;dsimp only at hR
  refine rS ?_
  refine AWP.ret ?_
  subst hR
  exact es
end N115
def D_zad : DF
 | [x0]=>some (.str (zad (rdI x0)),false,[wI .i64 x0,1≤(rdI x0),(rdI x0)≤9999])
 | _=>none
theorem yz0:OkD Tryz.prog 115 D_zad:=by unfold D_zad;exact dk N115.den
end Go.Ab

namespace Go.Ab
open Go Go.Proofs
theorem y9q (a : Int) : ∀ (k : Nat) (d : List UInt8), d.length + k = 4 → ynb (ytj a) (k + 1) d = .error (.inr (List.replicate k 48 ++ d))
 | 0,d,h=>by
  simp only[ynb,ytj]
  rw[decide_eq_false (show ¬ (d.length:Int)<4 by omega)]
  rfl
 | k+1,d,h=>by
  rw[ynb]
  simp only[ytj]
  rw[decide_eq_true (show(d.length:Int)<4 by omega)]
  simp only[cond_true]
  have ih:=y9q a k ([48]++d) (by simp;omega)
  rw[ih]
  congr 2
  rw[List.replicate_succ']
  simp
theorem yuq (n:Int) (h1:1≤n) (h2:n≤9999):zad n=110::ych n:=by
 have hl:=yge n 3 (by omega) (by show n<(10000:Int);omega)
 unfold zad ych
 rw[ycf n (by omega) (by omega),y9q n (4-(Lib.itoa n).length) (Lib.itoa n) (by omega)]
 rfl
theorem yir (n:Int) (h1:1≤n) (h2:n≤9999):(zad n).length≤10:=by
 have hl:=yge n 3 (by omega) (by show n<(10000:Int);omega)
 rw[yuq n h1 h2]
 unfold ych
 rw[List.length_cons,List.length_append,List.length_replicate]
 omega
theorem ybw (n:Int) (h1:1≤n):ymj (ych n):=by
 intro b hb
 unfold ych at hb
 rcases List.mem_append.1 hb with hb|hb
 ·have:=(List.mem_replicate.1 hb).2
  subst this
  decide
 ·rw[yqq (by omega)]at hb
  exact(yxc n.natAbs).1 b hb
theorem ynv (n:Int) (h1:1≤n) (h2:n≤9999):zpb (110::ych n)=true:=by
 have hl:=yir n h1 h2
 rw[yuq n h1 h2]at hl
 refine(y0f _).2 ⟨by simp,hl,fun j hj => ?_⟩
 cases j with
 | zero=>left;show 97≤(110:UInt8).toNat∧(110:UInt8).toNat≤122;decide
 | succ j=>
  right
  refine⟨by omega,?_⟩
  rw[List.length_cons]at hj
  have hj:j<(ych n).length:=by omega
  have hg:(110::ych n).getD (j+1) 0=(ych n)[j]:=by simp[List.getD_eq_getElem?_getD,List.getElem?_eq_getElem hj]
  rw[hg]
  exact ybw n h1 _ (List.getElem_mem hj)
end Go.Ab

namespace Go.Ab
open Go Go.Proofs
def yst (a0:(List Item)) (a1:Int) (i1:Nat) (s1:Int×List Item):Except (Int×(List Item)) (Int×List Item):=
 .ok (IntKind.wrap .i64 ((IntKind.wrap .i64 (s1.1+1))+1),s1.2.set i1 ({ Key:=(zm s1.1),Text:=(zm (IntKind.wrap .i64 (s1.1+1))):Item }))
def zn (a0:(List Item)) (a1:Int):Int×(List Item):=
 (match yf (yst a0 a1) (a0.length-0) 0 (a1,a0)with|.error e=>e|.ok s1=>(s1.1,s1.2))
namespace N41
theorem DD:DOk Tryz.prog (Go.Ab.DD [(120,dP D_zm)]):=ya yfm.e <| yd _
theorem dn:type_of% (@D_zm.eq_1):=by and_intros<;>intros<;>rfl
theorem den (a0:(List Item)) (a1:Int) (hp0:0≤a1) (hp1:a1≤1152921504606846976) (hp2:a0.length<1099511627776):DenM Tryz.prog 41 [ownL 153 2 ygc a0,.int .i64 a1] (.int .i64 ((zn a0 a1).1)) [(ownL 153 2 ygc ((zn a0 a1).2)),.any]:=by
 generalize hR:zn a0 a1=r
 unfold zn at hR
 refine dj (gb:=[true,false]) Tryz.func41 Tryz.ntmps41 Tryz.results41 ?_
 intro c hL hc hk
 obtain⟨hL0,hL1,_⟩:=hL
 have hw0:a0.length<9223372036854775808:=Nat.lt_succ_of_le (y1b hL0).1
 have hw1:∀ v∈a0,bwItem v:=fun v hv=>y4c v ((y1b hL0).2 v hv)
 clear hL0 hL1
 simp only[adEL,adE,adRL,adR,ownL,encL,sv,List.nil_append,List.append_nil,List.cons_append,List.length_cons,List.length_nil,pars,Nat.zero_add,Nat.reduceAdd]at hk ⊢
 iterate 2 refine rS ?_
 refine AWP.block ?_
 generalize hz1:yf (yst a0 a1) (a0.length-0) 0 (a1,a0)=z1 at hR
 refine AWP.range (yst a0 a1) (fun i1 s1=>⟨[(0,.ref 0 2 0 s1.2.length),(1,.int .i64 s1.1),(5,.int .i64 (i1:Int))],[.arr 153 2 s1.2.length (fun j=>ygc (s1.2.getD j default))]⟩) (fun i1 s1=>s1.2.length=a0.length∧0≤s1.1∧s1.1≤a1+2 * i1) (a0.length) 0 (a1,a0) [0] hz1 ot wt sm ?_
 clear hz1
 intro i1 s1 hi1 hW1 hz1
 refine rS ?_
 refine AWP.cond rfl (fun hb => ?_) (fun hb => ?_)
 ·have hlt1:i1<a0.length:=ot
  rw[yh hlt1]at hz1;simp only[yst]at hz1
  iterate 5 refine rS ?_
  exact⟨_,[0],hlt1,wt,hz1,sm⟩
 ·obtain rfl:i1=a0.length:=ot
  rw[yi (Nat.le_refl _)]at hz1;subst hz1;dsimp only at hR
  refine AWP.exit ?_;refine yb ?_
  refine rS ?_
  refine AWP.ret ?_
  subst hR
  exact es
end N41
def D_zn : List AV → Option (AV × List AV × List Prop)
 | [x0,x1]=>some (.int .i64 ((zn (rdL ycd x0) (rdI x1)).1),[(ownL 153 2 ygc ((zn (rdL ycd x0) (rdI x1)).2)),.any],[wO 153 2 ygc ycd x0,wI .i64 x1,0≤(rdI x1),(rdI x1)≤1152921504606846976,(rdL ycd x0).length<1099511627776])
 | _=>none
theorem ya3:OkM Tryz.prog 41 D_zn:=by unfold D_zn;exact dm N41.den
end Go.Ab

namespace Go.Ab
open Go Go.Proofs
def yvk (a0:(List Item)) (a1:Int) (i1:Nat) (s1:Int):Except (Int) (Int):=
 (bif (((a0.getD i1 default).Key) != (zm s1))then .error (-1)else(bif (((a0.getD i1 default).Text) != (zm (IntKind.wrap .i64 (s1+1))))then .error (-1)else .ok (IntKind.wrap .i64 ((IntKind.wrap .i64 (s1+1))+1))))
def zqc (a0:(List Item)) (a1:Int):Int:=
 (match yf (yvk a0 a1) (a0.length-0) 0 a1 with|.error e=>e|.ok s1=>s1)
namespace N42
theorem DD:DOk Tryz.prog (Go.Ab.DD [(120,dP D_zm)]):=ya yfm.e <| yd _
theorem dn:type_of% (@D_zm.eq_1):=by and_intros<;>intros<;>rfl
theorem den (a0:(List Item)) (a1:Int) (hp0:0≤a1) (hp1:a1≤1152921504606846976) (hp2:a0.length<1099511627776):Den Tryz.prog 42 [encL 2 ygc a0,.int .i64 a1] (.int .i64 (zqc a0 a1)):=by
 generalize hR:zqc a0 a1=r
 unfold zqc at hR
 refine di Tryz.func42 Tryz.ntmps42 Tryz.results42 ?_
 intro c hL hc hk
 obtain⟨hL0,hL1,_⟩:=hL
 have hw0:a0.length<9223372036854775808:=Nat.lt_succ_of_le (ye hL0).1
 have hw1:∀ v∈a0,bwItem v:=fun v hv=>y4c v ((ye hL0).2 v hv)
 clear hL0 hL1
 simp only[pars,Nat.zero_add]
 iterate 2 refine rS ?_
 refine AWP.block ?_
 generalize hz1:yf (yvk a0 a1) (a0.length-0) 0 a1=z1 at hR
 refine AWP.range (yvk a0 a1) (fun i1 s1=>⟨[(0,encL 2 ygc a0),(1,.int .i64 s1),(5,.int .i64 (i1:Int))],[]⟩) (fun i1 s1=>0≤s1∧s1≤a1+2 * i1) (a0.length) 0 a1 [] hz1 ot wt sm ?_
 clear hz1
 intro i1 s1 hi1 hW1 hz1
 refine rS ?_
 refine AWP.cond rfl (fun hb => ?_) (fun hb => ?_)
 ·have hlt1:i1<a0.length:=ot
  rw[yh hlt1]at hz1;simp only[yvk]at hz1
  refine rD 7 ?_
  refine AWP.cond rfl (fun hb => ?_) (fun hb => ?_)
  ·simp only[hb,cond_true]at hz1
   refine rS ?_
   refine AWP.ret ?_
   subst hz1
   dsimp only at hR
   subst hR
   exact es
  ·simp only[hb,cond_false]at hz1
   refine rS ?_
   refine rD 7 ?_
   refine AWP.cond rfl (fun hb => ?_) (fun hb => ?_)
   ·simp only[hb,cond_true]at hz1
    refine rS ?_
    refine AWP.ret ?_
    subst hz1
    dsimp only at hR
    subst hR
    exact es
   ·simp only[hb,cond_false]at hz1
    iterate 2 refine rS ?_
    exact⟨_,[],hlt1,wt,hz1,sm⟩
 ·obtain rfl:i1=a0.length:=ot
  rw[yi (Nat.le_refl _)]at hz1;subst hz1;dsimp only at hR
  refine AWP.exit ?_;refine yb ?_
  refine rS ?_
  refine AWP.ret ?_
  subst hR
  exact es
end N42
def D_zqc : DF
 | [x0,x1]=>some (.int .i64 (zqc (rdL ycd x0) (rdI x1)),false,[wL 2 ygc ycd x0,wI .i64 x1,0≤(rdI x1),(rdI x1)≤1152921504606846976,(rdL ycd x0).length<1099511627776])
 | _=>none
theorem y50:OkD Tryz.prog 42 D_zqc:=by unfold D_zqc;exact dk N42.den
end Go.Ab

namespace Go.Ab
open Go Go.Proofs
def ysh (v:Int):Item:=⟨(zm v),(zm (v+1))⟩
theorem yzo (a:List Item) (k:Int):(zn a k).2.length=a.length:=by
 unfold zn
 obtain⟨t,h1,h2⟩:=yq (b:=yst a k) (fun _ s=>s.2.length=a.length) (k:=a.length-0) (i:=0) (s:=(k,a)) rfl (by
  intro j u _ _ h
  exact⟨_,rfl,by simpa using h⟩)
 rw[h1]
 exact h2
theorem y6r (a:List Item) (k:Int):subL (zn a k).2 0 a.length=(zn a k).2:=by
 rw[← yzo a k];exact yye _
theorem y35 (a:List Item) (k:Int) (h0:0≤k) (h1:k+2 * a.length<4611686018427387904):zn a k=(k+2 * a.length,(List.range a.length).map (fun j:Nat=>ysh (k+2 * j))):=by
 unfold zn
 obtain⟨t,q1,q2,q3,q4⟩:=yq (b:=yst a k) (fun i s=>s.1=k+2 * i∧s.2.length=a.length∧∀ j,j<i→s.2.getD j default=ysh (k+2 * j)) (k:=a.length-0) (i:=0) (s:=(k,a)) ⟨by simp,rfl,by intro j hj;omega⟩ (by
  intro j u _ hj ⟨h2,h3,h4⟩
  have w1:∀ m:Int,0≤m→m<4611686018427387904→IntKind.wrap .i64 (m+1)=m+1:=by intro m _ _;rw[IntKind.wrap_i64];omega
  have w0:∀ m:Int,0≤m→m<4611686018427387904→IntKind.wrap .i64 m=m:=by intro m _ _;rw[IntKind.wrap_i64];omega
  refine⟨_,rfl,?_,?_,?_⟩
  ·simp only[h2,IntKind.wrap_i64];omega
  ·simpa using h3
  ·intro q hq
   simp only
   rw[ywd]
   by_cases h:q=j
   ·subst h
    rw[if_pos ⟨rfl,by omega⟩,h2]
    simp only[ysh]
    all_goals (try rw[Item.mk.injEq])
    all_goals (and_intros<;>first|rfl|trivial|(simp only[IntKind.wrap_i64];omega)|(congr 1;(simp only[IntKind.wrap_i64];omega)))
   ·rw[if_neg (fun hh=>h hh.1)]
    exact h4 q (by omega))
 rw[q1]
 simp only[Nat.zero_add,Nat.sub_zero]at q2 q4
 simp only[q2]
 congr 1
 apply yai
 ·simpa using q3
 ·intro i hi
  rw[q4 i (by omega)]
  simp[List.getD_eq_getElem?_getD]
  rw[List.getElem?_range (by omega)]
  rfl
theorem y21 (a:List Item) (k:Int) (h0:0≤k) (hk:k≤1152921504606846976) (h1:a.length<1099511627776):zqc (zn a k).2 k=(zn a k).1∧¬ (zn a k).1<0:=by
 rw[y35 a k h0 (by omega)]
 refine⟨?_,by simp only;omega⟩
 simp only
 unfold zqc
 obtain⟨t,q1,q2⟩:=yq (b:=yvk ((List.range a.length).map (fun j:Nat=>ysh (k+2 * j))) k) (fun i s=>s=k+2 * (i:Int)) (k:=((List.range a.length).map (fun j:Nat=>ysh (k+2 * j))).length-0) (i:=0) (s:=k) (by simp) (by
  intro j u _ hj h2
  have hj2:j<a.length:=by simpa using hj
  have hg:((List.range a.length).map (fun j:Nat=>ysh (k+2 * j))).getD j default=ysh (k+2 * j):=by
   simp[List.getD_eq_getElem?_getD,hj2]
  subst h2
  refine⟨k+2 * ((j+1:Nat):Int),?_,rfl⟩
  have e1:∀ m:Int,0≤m→m<4611686018427387904→(m+9223372036854775808) % 18446744073709551616-9223372036854775808=m:=by intro m _ _;omega
  simp only[yvk]
  simp only[hg]
  simp only[ysh,IntKind.wrap_i64]
  (repeat rw[e1 _ (by omega) (by omega)])
  simp only[Int.add_assoc,Int.reduceAdd,bne_self_eq_false,cond_false,Except.ok.injEq]
  omega)
 rw[q1]
 simp only[q2]
 simp
end Go.Ab

namespace Go.Ab
open Go Go.Proofs
def zyf (a0:Item) (a1:Item):Bool:=
 (bif (a0.Key != a1.Key)then false else(bif (a0.Text != a1.Text)then false else true))
namespace N119
theorem DD:DOk Tryz.prog (Go.Ab.DD []):=yd _
theorem den (a0:Item) (a1:Item)  : Den Tryz.prog 119 [.agg (ygc a0),.agg (ygc a1)] (.bool (zyf a0 a1)):=by
 generalize hR:zyf a0 a1=r
 unfold zyf at hR
 refine di Tryz.func119 Tryz.ntmps119 Tryz.results119 ?_
 intro c hL hc hk
 obtain⟨hL0,hL1,_⟩:=hL
 have hw0:bwItem a0:=y4c a0 hL0
 have hw1:bwItem a1:=y4c a1 hL1
 clear hL0 hL1
 simp only[pars,Nat.zero_add]
 iterate 2 refine rS ?_
 refine AWP.cond rfl (fun hb => ?_) (fun hb => ?_)
 ·replace hR:=ct hR
  refine rS ?_
  refine AWP.ret ?_
  subst hR
  exact es
 ·replace hR:=cf hR
  refine rS ?_
  refine AWP.cond rfl (fun hb => ?_) (fun hb => ?_)
  ·replace hR:=ct hR
   refine rS ?_
   refine AWP.ret ?_
   subst hR
   exact es
  ·replace hR:=cf hR
   refine rS ?_
   refine AWP.ret ?_
   subst hR
   exact es
end N119
def D_zyf : DF
 | [x0,x1]=>some (.bool (zyf (rdG ycd x0) (rdG ycd x1)),false,[wG ygc ycd x0,wG ygc ycd x1])
 | _=>none
theorem yhz:OkD Tryz.prog 119 D_zyf:=by unfold D_zyf;exact dk N119.den
end Go.Ab

namespace Go.Ab
open Go Go.Proofs
def y8k (a0:(List Item)) (a1:(List Item)) (i1:Nat) (s1:Unit):Except (Bool) (Unit):=
 (bif (!(zyf (a0.getD i1 default) (a1.getD i1 default)))then .error false else .ok ())
def zrc (a0:(List Item)) (a1:(List Item)):Bool:=
 (bif ((a0.length:Int) != (a1.length:Int))then false else(match yf (y8k a0 a1) (a0.length-0) 0 ()with|.error e=>e|.ok s1=>true))
namespace N38
theorem DD:DOk Tryz.prog (Go.Ab.DD [(119,dP D_zyf)]):=ya yhz.e <| yd _
theorem dn:type_of% (@D_zyf.eq_1):=by and_intros<;>intros<;>rfl
theorem den (a0:(List Item)) (a1:(List Item))  : Den Tryz.prog 38 [encL 2 ygc a0,encL 2 ygc a1] (.bool (zrc a0 a1)):=by
 generalize hR:zrc a0 a1=r
 unfold zrc at hR
 refine di Tryz.func38 Tryz.ntmps38 Tryz.results38 ?_
 intro c hL hc hk
 obtain⟨hL0,hL1,_⟩:=hL
 have hw0:a0.length<9223372036854775808:=Nat.lt_succ_of_le (ye hL0).1
 have hw1:∀ v∈a0,bwItem v:=fun v hv=>y4c v ((ye hL0).2 v hv)
 have hw2:a1.length<9223372036854775808:=Nat.lt_succ_of_le (ye hL1).1
 have hw3:∀ v∈a1,bwItem v:=fun v hv=>y4c v ((ye hL1).2 v hv)
 clear hL0 hL1
 simp only[pars,Nat.zero_add]
 iterate 2 refine rS ?_
 refine AWP.cond rfl (fun hb => ?_) (fun hb => ?_)
 ·replace hR:=ct hR
  refine rS ?_
  refine AWP.ret ?_
  subst hR
  exact es
 ·replace hR:=cf hR
  refine rS ?_
  refine AWP.block ?_
  generalize hz1:yf (y8k a0 a1) (a0.length-0) 0 ()=z1 at hR
  refine AWP.range (y8k a0 a1) (fun i1 s1=>⟨[(0,encL 2 ygc a0),(1,encL 2 ygc a1),(5,.int .i64 (i1:Int))],[]⟩) (fun i1 s1=>True) (a0.length) 0 () [] hz1 ot wt sm ?_
  clear hz1
  intro i1 s1 hi1 hW1 hz1
  refine rS ?_
  refine AWP.cond rfl (fun hb => ?_) (fun hb => ?_)
  ·have hlt1:i1<a0.length:=ot
   rw[yh hlt1]at hz1;simp only[y8k]at hz1
   refine rD 8 ?_
   refine AWP.cond rfl (fun hb => ?_) (fun hb => ?_)
   ·simp only[hb,cond_true]at hz1
    refine rS ?_
    refine AWP.ret ?_
    subst hz1
    dsimp only at hR
    subst hR
    exact es
   ·simp only[hb,cond_false]at hz1
    refine rS ?_
    exact⟨_,[],hlt1,wt,hz1,sm⟩
  ·obtain rfl:i1=a0.length:=ot
   rw[yi (Nat.le_refl _)]at hz1;subst hz1;dsimp only at hR
   refine AWP.exit ?_;refine yb ?_
   refine rS ?_
   refine AWP.ret ?_
   subst hR
   exact es
end N38
def D_zrc : DF
 | [x0,x1]=>some (.bool (zrc (rdL ycd x0) (rdL ycd x1)),false,[wL 2 ygc ycd x0,wL 2 ygc ycd x1])
 | _=>none
theorem y80:OkD Tryz.prog 38 D_zrc:=by unfold D_zrc;exact dk N38.den
end Go.Ab

namespace Go.Ab
open Go Go.Proofs
theorem ye3 (a b:Item):zyf a b=decide (a=b):=by
 unfold zyf
 skip
 by_cases h:a=b
 ·subst h;simp
 ·rw[decide_eq_false h]
  cases a;cases b
  simp only[Item.mk.injEq]at h
  simp only[bne_iff_ne,Bool.cond_eq_ite,ite_eq_right_iff]
  (repeat' split)<;>simp_all
end Go.Ab

namespace Go.Ab
open Go Go.Proofs
theorem yx3 (a b:List Item):zrc a b=decide (a=b):=by
 unfold zrc
 by_cases hl:a.length=b.length
 ·have h1:((a.length:Int) != (b.length:Int))=false:=by simp[hl]
  rw[h1,cond_false,yac (b:=y8k a b) (fun j => !decide (a.getD j default=b.getD j default)) false (fun j u _ _=>by simp only[y8k,ye3])]
  simp only[Nat.sub_zero,Nat.zero_add]
  rw[yyk a b hl]
  by_cases h:a=b<;>simp[h]
 ·have h1:((a.length:Int) != (b.length:Int))=true:=by simp;omega
  have h2:¬ a=b:=fun e=>hl (by rw[e])
  rw[h1,cond_true,decide_eq_false h2]
end Go.Ab

namespace Go.Ab
open Go Go.Proofs
def y4h (a0:(List Aid)) (i1:Nat) (s1:List Item):Except (((List Item)×Int)) (List Item):=
 .ok (s1++[{ Key:=[110]++(zob ((a0.getD i1 default).Number) 4),Text:=(znb (a0.getD i1 default)):Item }])
def zhb (a0:(List Aid)):((List Item)×Int):=
 (bif (!(zwb a0))then([],1)else(match yf (y4h a0) (a0.length-0) 0 ([]:List Item)with|.error e=>e|.ok s1=>(s1,0)))
namespace N37
theorem DD:DOk Tryz.prog (Go.Ab.DD [(117,dP D_zwb),(118,dP D_zob),(32,dP D_znb)]):=ya y9r.e <| ya y9s.e <| ya yzg.e <| yd _
theorem dn:type_of% (And.intro @D_zwb.eq_1 <| And.intro @D_zob.eq_1 <| @D_znb.eq_1):=by and_intros<;>intros<;>rfl
theorem gr {p:Prop} (h:p:=by(grind [y7j]);first|done|fail):p:=h
theorem o0 {p:Prop} (h:p:=by(first|(have h9:=ykd (y8f (hva (by assumption)) i1 (by assumption));have l1:=y1p _ h9.1 h9.2.1;have l2:=y6d (a0.getD i1 default) (hbe i1);have hbd:=hbe i1;(repeat' with_reducible apply And.intro)<;>first|with_reducible assumption|omega|(simp only[List.length_append,List.length_cons,List.length_nil,List.length_singleton];omega)));first|done|fail):p:=h
set_option maxHeartbeats 1000000 in
set_option maxRecDepth 20000 in
theorem den (a0:(List Aid)) (hb0:a0.length<1099511627776) (hb1:∀ v∈a0,bdAid v):Den Tryz.prog 37 [encL 16 eAid a0] (.tup [ownL 153 2 ygc ((zhb a0).1),.int .i64 ((zhb a0).2)]):=by
 generalize hR:zhb a0=r
 unfold zhb at hR
 refine di Tryz.func37 Tryz.ntmps37 Tryz.results37 ?_
 intro c hL hc hk
 obtain⟨hL0,_⟩:=hL
 have hw0:a0.length<9223372036854775808:=Nat.lt_succ_of_le (ye hL0).1
 have hw1:∀ v∈a0,bwAid v:=fun v hv=>yy v ((ye hL0).2 v hv)
 clear hL0
 simp only[pars,Nat.zero_add]
 have hva:=fun h=>ywy (l:=a0) hb1 h
 have hbe:∀ i:Nat,bdAid (a0.getD i default):=fun i=>ybd hb1 (by decide) i
 iterate 2 refine rS ?_
 refine AWP.cond rfl (fun hb => ?_) (fun hb => ?_)
 ·replace hR:=ct hR
  refine rS ?_
  refine AWP.ret ?_
  subst hR
  exact es
 ·replace hR:=cf hR
  iterate 2 refine rS ?_
  refine AWP.block ?_
  generalize hz1:yf (y4h a0) (a0.length-0) 0 ([]:List Item)=z1 at hR
  refine AWP.range (y4h a0) (fun i1 s1=>⟨[(4,.ref 0 2 0 s1.length),(11,encL 16 eAid a0),(12,.int .i64 (a0.length:Int)),(13,.int .i64 (i1:Int))],[.arr 153 2 s1.length (fun j=>ygc (s1.getD j default))]⟩) (fun i1 s1=>s1.length≤([]:List Item).length+1 * i1∧s1.length≤i1) (a0.length) 0 ([]:List Item) [0] hz1 ot wt sm ?_
  clear hz1
  intro i1 s1 hi1 hW1 hz1
  refine rS ?_
  refine AWP.seq ?_
  refine AWP.cond rfl (fun hb => ?_) (fun hb => ?_)
  ·have hlt1:i1<a0.length:=ot
   rw[yh hlt1]at hz1;simp only[y4h]at hz1
   refine rS ?_
   refine AWP.regP mixed G_ok DD hc 9 [0,1,2,3,4,5,6,7] (.alt 8 [] [0,1] .leaf .stop) (by kernel_rfl) (by kernel_rfl) (by kernel_rfl) (fun K hK => ?_);simp only[y6t,runN,runP,y8d,nthO,ea,absV,absVL,cput,gv,sv,dn,reduceCtorEq,reduceIte,Nat.reduceBEq,Nat.reduceAdd,Nat.reduceEqDiff,Nat.reduceLT,Nat.reduceLeDiff,Nat.reduceMul,Nat.reduceSub,BEq.rfl,beq_self_eq_true,Int.reduceToNat]
   repeat' apply And.intro
   all_goals first|refine hK _ ?_|exact ot
   all_goals clear hK K
   refine rS ?_
   exact⟨_,[3],hlt1,wt,hz1,sm⟩
  ·obtain rfl:i1=a0.length:=ot
   rw[yi (Nat.le_refl _)]at hz1;subst hz1;dsimp only at hR
   refine AWP.exit ?_;refine yb ?_
   refine rS ?_
   refine AWP.ret ?_
   subst hR
   exact es
end N37
def D_zhb : DF
 | [x0]=>some (.tup [ownL 153 2 ygc ((zhb (rdL dAid x0)).1),.int .i64 ((zhb (rdL dAid x0)).2)],false,[wL 16 eAid dAid x0,(rdL dAid x0).length<1099511627776,∀ v∈(rdL dAid x0),bdAid v])
 | _=>none
theorem yp1:OkD Tryz.prog 37 D_zhb:=by unfold D_zhb;exact dk N37.den
end Go.Ab

namespace Go.Ab
open Go Go.Proofs
def yrh (a0:(List Aid)) (i1:Nat) (s1:List Item):Except (((List Item)×Int)) (List Item):=
 (bif (!(ztg ({ Key:=(zad ((a0.getD i1 default).Number)),Text:=(zw (a0.getD i1 default)):Item })))then .error ([],6)else .ok (s1++[{ Key:=(zad ((a0.getD i1 default).Number)),Text:=(zw (a0.getD i1 default)):Item }]))
def ztb (a0:(List Aid)):((List Item)×Int):=
 (bif (!(zcb a0))then([],1)else(match yf (yrh a0) (a0.length-0) 0 ([]:List Item)with|.error e=>e|.ok s1=>(s1,0)))
namespace N35
theorem DD:DOk Tryz.prog (Go.Ab.DD [(114,dP D_zcb),(115,dP D_zad),(116,dP D_ztg),(99,dP D_zw)]):=ya ynt.e <| ya yz0.e <| ya y11.e <| ya yij.e <| yd _
theorem dn:type_of% (And.intro @D_zcb.eq_1 <| And.intro @D_zad.eq_1 <| And.intro @D_ztg.eq_1 <| @D_zw.eq_1):=by and_intros<;>intros<;>rfl
theorem gr {p:Prop} (h:p:=by(grind [ywg]);first|done|fail):p:=h
theorem o0 {p:Prop} (h:p:=by(first|(have h8:=hva (by assumption) i1 (by assumption);have h9:=ykd h8;have l2:=yce (hbe i1) h8;have l1:=yir _ h9.1 h9.2.1;have hbd:=hbe i1;(repeat' with_reducible apply And.intro)<;>first|with_reducible assumption|omega|(simp only[List.length_append,List.length_cons,List.length_nil,List.length_singleton];omega)));first|done|fail):p:=h
set_option maxHeartbeats 1000000 in
set_option maxRecDepth 20000 in
theorem den (a0:(List Aid)) (hb0:a0.length<1099511627776) (hb1:∀ v∈a0,bdAid v):Den Tryz.prog 35 [encL 16 eAid a0] (.tup [ownL 153 2 ygc ((ztb a0).1),.int .i64 ((ztb a0).2)]):=by
 generalize hR:ztb a0=r
 unfold ztb at hR
 refine di Tryz.func35 Tryz.ntmps35 Tryz.results35 ?_
 intro c hL hc hk
 obtain⟨hL0,_⟩:=hL
 have hw0:a0.length<9223372036854775808:=Nat.lt_succ_of_le (ye hL0).1
 have hw1:∀ v∈a0,bwAid v:=fun v hv=>yy v ((ye hL0).2 v hv)
 clear hL0
 simp only[pars,Nat.zero_add]
 have hva:=fun(h:(!zcb a0)=false)=>y8f (l:=a0) (by simpa using h)
 have hbe:∀ i:Nat,bdAid (a0.getD i default):=fun i=>ybd hb1 (by decide) i
 iterate 2 refine rS ?_
 refine AWP.cond rfl (fun hb => ?_) (fun hb => ?_)
 ·replace hR:=ct hR
  refine rS ?_
  refine AWP.ret ?_
  subst hR
  exact es
 ·replace hR:=cf hR
  iterate 2 refine rS ?_
  refine AWP.block ?_
  generalize hz1:yf (yrh a0) (a0.length-0) 0 ([]:List Item)=z1 at hR
  refine AWP.range (yrh a0) (fun i1 s1=>⟨[(0,encL 16 eAid a0),(4,.ref 0 2 0 s1.length),(5,.int .i64 (i1:Int))],[.arr 153 2 s1.length (fun j=>ygc (s1.getD j default))]⟩) (fun i1 s1=>s1.length≤([]:List Item).length+1 * i1∧s1.length≤i1) (a0.length) 0 ([]:List Item) [0] hz1 ot wt sm ?_
  clear hz1
  intro i1 s1 hi1 hW1 hz1
  refine rS ?_
  refine AWP.cond rfl (fun hb => ?_) (fun hb => ?_)
  ·have hlt1:i1<a0.length:=ot
   rw[yh hlt1]at hz1;simp only[yrh]at hz1
   refine AWP.skip ?_
   refine AWP.seq ?_
   refine AWP.block ?_
   refine AWP.seq ?_
   refine AWP.regP mixed G_ok DD hc 12 [0,1,2,3,4,5,6,7,8,9,10] (.alt 11 [] [0,1,2,3,4,5,6,7,8,9,10] .leaf .stop) (by kernel_rfl) (by kernel_rfl) (by kernel_rfl) (fun K hK => ?_);simp only[y6t,runN,runP,y8d,nthO,ea,absV,absVL,cput,gv,sv,dn,reduceCtorEq,reduceIte,Nat.reduceBEq,Nat.reduceAdd,Nat.reduceEqDiff,Nat.reduceLT,Nat.reduceLeDiff,Nat.reduceMul,Nat.reduceSub,BEq.rfl,beq_self_eq_true,Int.reduceToNat]
   repeat' apply And.intro
   all_goals first|refine hK _ ?_|exact ot
   all_goals clear hK K
   refine rS ?_
   refine AWP.cond rfl (fun hb => ?_) (fun hb => ?_)
   ·simp only[hb,cond_true]at hz1
    refine rS ?_
    refine AWP.ret ?_
    subst hz1
    dsimp only at hR
    subst hR
    exact es
   ·simp only[hb,cond_false]at hz1
    iterate 2 refine rS ?_
    exact⟨_,[3],hlt1,wt,hz1,sm⟩
  ·obtain rfl:i1=a0.length:=ot
   rw[yi (Nat.le_refl _)]at hz1;subst hz1;dsimp only at hR
   refine AWP.exit ?_;refine yb ?_
   refine rS ?_
   refine AWP.ret ?_
   subst hR
   exact es
end N35
def D_ztb : DF
 | [x0]=>some (.tup [ownL 153 2 ygc ((ztb (rdL dAid x0)).1),.int .i64 ((ztb (rdL dAid x0)).2)],false,[wL 16 eAid dAid x0,(rdL dAid x0).length<1099511627776,∀ v∈(rdL dAid x0),bdAid v])
 | _=>none
theorem yy1:OkD Tryz.prog 35 D_ztb:=by unfold D_ztb;exact dk N35.den
end Go.Ab

namespace Go.Ab
open Go Go.Proofs
theorem y9i (a:List Aid) (k:Int) (h:k≤9223372036854775807):(zzc a k).1≤9223372036854775807:=by
 unfold zzc
 obtain⟨t,h1,h2⟩:=yq (b:=yjj a k) (fun _ s=>s.1≤9223372036854775807) (k:=a.length-0) (i:=0) (s:=(k,a)) h (by
  intro j u _ _ h
  exact⟨_,rfl,ymh _⟩)
 rw[h1]
 exact h2
theorem yve (a:List Aid) (k:Int):(zzc a k).2.length=a.length:=by
 unfold zzc
 obtain⟨t,h1,h2⟩:=yq (b:=yjj a k) (fun _ s=>s.2.length=a.length) (k:=a.length-0) (i:=0) (s:=(k,a)) rfl (by
  intro j u _ _ h
  exact⟨_,rfl,by simpa using h⟩)
 rw[h1]
 exact h2
theorem yzh (a:List Aid) (k:Int):subL (zzc a k).2 0 a.length=(zzc a k).2:=by
 rw[← yve a k];exact yye _
end Go.Ab

namespace Go.Ab
open Go Go.Proofs
theorem ya4 (l:List Aid):(zhb l).1.length≤24:=by
 unfold zhb
 cases h:zwb l with
 | false=>simp
 | true=>
  have h24:=y7j h
  simp only[Bool.not_true,cond_false]
  obtain⟨t,q1,q2⟩:=yq (b:=y4h l) (fun i s=>s.length≤i) (k:=l.length-0) (i:=0) (s:=[]) (by simp) (fun j u _ hj hu=>⟨_,rfl,by simp;omega⟩)
  rw[q1]
  simp only
  omega
end Go.Ab

namespace Go.Ab
open Go Go.Proofs
def zgh (a0:(List Aid)):Bool:=
 (bif decide ((zx a0 1048576)<0)then true else(bif ((!(zrc ((zhb (zk a0)).1) ((ztb (zk a0)).1))) || (((zhb (zk a0)).2) != ((ztb (zk a0)).2)))then false else(bif (!(zzb (zk a0) (zk a0)))then false else(bif ((decide (((zzc (zk a0) 1).1)<0) || (!(zrc ((zhb (zk a0)).1) ((ztb (zk a0)).1)))) || (((zhb (zk a0)).2) != ((ztb (zk a0)).2)))then false else(bif decide ((zqc ((zn ((zhb (zk a0)).1) 1).2) 1)<0)then false else(bif ((zqc ((zn ((zhb (zk a0)).1) 1).2) 1) != ((zn ((zhb (zk a0)).1) 1).1))then false else true))))))
namespace N5
theorem DD:DOk Tryz.prog (Go.Ab.DD [(34,dP D_zx),(35,dP D_ztb),(36,dP D_zk),(37,dP D_zhb),(38,dP D_zrc),(39,dP D_zzb),(41,dM [true,false] D_zn),(42,dP D_zqc)]):=ya y3v.e <| ya yy1.e <| ya ygw.e <| ya yp1.e <| ya y80.e <| ya ygr.e <| ya ya3.e <| ya y50.e <| yd _
theorem dn:type_of% (And.intro @D_zx.eq_1 <| And.intro @D_ztb.eq_1 <| And.intro @D_zk.eq_1 <| And.intro @D_zhb.eq_1 <| And.intro @D_zrc.eq_1 <| And.intro @D_zzb.eq_1 <| And.intro @D_zn.eq_1 <| And.intro @D_zqc.eq_1 <| And.intro @yzh <| And.intro @y6r <| @y6r):=And.intro @D_zx.eq_1 <| And.intro @D_ztb.eq_1 <| And.intro @D_zk.eq_1 <| And.intro @D_zhb.eq_1 <| And.intro @D_zrc.eq_1 <| And.intro @D_zzb.eq_1 <| And.intro @D_zn.eq_1 <| And.intro @D_zqc.eq_1 <| And.intro @yzh <| And.intro @y6r <| @y6r
theorem ol:type_of% (And.intro @yfu <| And.intro @yve <| @yzo):=And.intro @yfu <| And.intro @yve <| @yzo
theorem gr {p:Prop} (h:p:=by(grind [y9i,yzo,yzo]);first|done|fail):p:=h
theorem o1 {p:Prop} (h:p:=by(first|omega|(exact mrg)|(exact y9i _ _ (by exact mrg))|((try simp only[ol]);first|(have h9:=hG0 (by assumption);first|exact h9.2|exact h9.1|omega)));first|done|fail):p:=h
set_option maxHeartbeats 4000000 in
set_option maxRecDepth 20000 in
theorem _root_.Go.Ab.zgh_den (a0:(List Aid))  : Den Tryz.prog 5 [encL 16 eAid a0] (.bool (zgh a0)):=by
 generalize hR:zgh a0=r
 unfold zgh at hR
 refine y5u G_ok Tryz.func5 (by kernel_rfl) rfl Tryz.ntmps5 (by rw[Tryz.results5]) (by simp) rfl ?_
 intro c u hdp hlit hL hc hk
 obtain⟨hL0,_⟩:=hL
 have hw0:a0.length<9223372036854775808:=Nat.lt_succ_of_le (ye hL0).1
 have hw1:∀ v∈a0,bwAid v:=fun v hv=>yy v ((ye hL0).2 v hv)
 clear hL0
 simp only[litN,lit1,litM,yru,litR,y5t,encL,sv,Nat.zero_add,Nat.reduceAdd]at hlit
 simp only[litN,lit1,litM,yru,encL,sv,pars,Nat.zero_add,Nat.reduceAdd]
 have hf0:=yom a0 (1048576) (by omega) (by omega) hw0 hw1
 have hG0:decide (zx a0 (1048576)<0)=false→a0.length≤1048576∧∀ x∈a0,bdAid x:=fun h=>⟨(hf0.2.2 (of_decide_eq_false h)).1,fun x hx=>yki x ((hf0.2.2 (of_decide_eq_false h)).2 x hx)⟩
 have hil:=ya4 (zk a0)
 iterate 4 refine rS ?_
 refine AWP.cond rfl (fun hb => ?_) (fun hb => ?_)
 ·replace hR:=ct hR
  refine rS ?_
  refine AWP.ret ?_
  subst hR
  exact es
 ·replace hR:=cf hR
  iterate 4 refine rS ?_
  refine AWP.cond rfl (fun hb => ?_) (fun hb => ?_)
  ·replace hR:=ct hR
   refine rS ?_
   refine AWP.ret ?_
   subst hR
   exact es
  ·replace hR:=cf hR
   refine rS ?_
   refine AWP.cond rfl (fun hb => ?_) (fun hb => ?_)
   ·replace hR:=ct hR
    refine rS ?_
    refine AWP.ret ?_
    subst hR
    exact es
   ·replace hR:=cf hR
    refine rS ?_
    refine AWP.seq ?_
    refine rX 2 (N40.den (zk a0) 1 ot) ?_
    refine rS ?_
    refine AWP.cond rfl (fun hb => ?_) (fun hb => ?_)
    ·replace hR:=ct hR
     refine rS ?_
     refine AWP.ret ?_
     subst hR
     exact es
    ·replace hR:=cf hR
     iterate 5 refine rS ?_
     refine AWP.cond rfl (fun hb => ?_) (fun hb => ?_)
     ·replace hR:=ct hR
      refine rS ?_
      refine AWP.ret ?_
      subst hR
      exact es
     ·replace hR:=cf hR
      refine rS ?_
      refine AWP.cond rfl (fun hb => ?_) (fun hb => ?_)
      ·replace hR:=ct hR
       refine rS ?_
       refine AWP.ret ?_
       subst hR
       exact es
      ·replace hR:=cf hR
       iterate 2 refine rS ?_
       refine AWP.cond rfl (fun hb => ?_) (fun hb => ?_)
       ·exfalso;simp_all
       ·refine rS ?_
        iterate 2 refine rS ?_
        refine AWP.cond rfl (fun hb => ?_) (fun hb => ?_)
        ·exfalso;simp_all
        ·refine rS ?_
         refine AWP.cond rfl (fun hb => ?_) (fun hb => ?_)
         ·exfalso;simp_all
         ·refine rS ?_
          refine AWP.ret ?_
          subst hR
          exact es
end N5
end Go.Ab

namespace Go.Ab
open Go Go.Proofs
theorem yux (l:List Aid) (hl:∀ v∈l,aidL v):zhb l=ztb l∧(ztb l).1.length≤24:=by
 unfold zhb ztb
 rw[yke l hl]
 cases h:zcb l with
 | false=>exact⟨rfl,by simp⟩
 | true=>
  have h24:=ywg h
  simp only[Bool.not_true,cond_false]
  have hb:∀ j (u:List Item),j<l.length→y4h l j u=yrh l j u:=fun j u hj=>by
   have h1:=y8f h j hj
   have hr:=ykd h1
   have hA:aidL (l.getD j default):=by
    rw[List.getD_eq_getElem?_getD,List.getElem?_eq_getElem hj]
    exact hl _ (List.getElem_mem hj)
   have ht:=yae h1 hA.1
   unfold y4h yrh
   rw[ht.1,y2r _ hr.1 hr.2.1,yuq _ hr.1 hr.2.1]
   have:ztg ({ Key:=110::ych (l.getD j default).Number,Text:=zw (l.getD j default):Item })=true:=by
    unfold ztg
    rw[ynv _ hr.1 hr.2.1]
    rw[Bool.true_and]
    exact decide_eq_true (by have:=ht.2;show((zw (l.getD j default)).length:Int)≤400;omega)
   rw[this]
   rfl
  rw[y6g (b:=y4h l) (b':=yrh l) (l.length-0) 0 [] (fun j u _ hj=>hb j u (by omega))]
  refine⟨rfl,?_⟩
  obtain⟨t,q1,q2⟩:=yq (b:=yrh l) (fun i s=>s.length≤i) (k:=l.length-0) (i:=0) (s:=[]) (by simp) (fun j u _ hj hu=>by
   rw[← hb j u (by omega)]
   exact⟨_,rfl,by simp;omega⟩)
  rw[q1]
  simp only
  omega
theorem yui (a0:List Aid) (hl:a0.length<9223372036854775808) (hv:∀ v∈a0,bwAid v):zgh a0=true:=by
 unfold zgh
 have f0:=yom a0 1048576 (by omega) (by omega) hl hv
 by_cases c0:zx a0 1048576<0
 ·rw[decide_eq_true c0];rfl
 rw[decide_eq_false c0]
 simp only[cond_false]
 obtain⟨g0,g1⟩:=f0.2.2 c0
 simp only[yfu,yxw,yx3]
 have hp0:∀ v∈a0,aidP v:=fun v h=>yhx (hv v h) (g1 v h)
 obtain⟨e1,e2⟩:=yux a0 (fun v h=>(hp0 v h).1)
 rw[e1]
 have hm:=y21 (ztb a0).1 1 (by omega) (by omega) (by omega)
 have hk:=yto a0 1 (fun v h=>(hp0 v h).2) g0 (by omega) (by omega)
 rw[hm.1,decide_eq_false hm.2,decide_eq_false (show ¬ (zzc a0 1).1<0 by omega)]
 simp
end Go.Ab
