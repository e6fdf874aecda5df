/- A part of a proof: walks of functions and lemmas of our own. No conditions. -/
import Derived.Test.YtopoomikfjodkaaGreatDoorRAl
import Derived.Test.YtopoomikfjodkaaGreatDoorRBm
import Derived.Test.YtopoomikfjodkaaGreatDoorRAi
import Derived.Test.YtopoomikfjodkaaGreatDoorRAq
import Derived.Test.YtopoomikfjodkaaGreatDoorRBl
import Derived.Test.YtopoomikfjodkaaGreatDoorRBi
import Derived.Test.YtopoomikfjodkaaGreatDoorRBc
set_option linter.unusedSectionVars false
set_option linter.unusedVariables false
set_option linter.unusedSimpArgs false
set_option maxHeartbeats 1000000
namespace Go.Ab
open Go Go.Proofs
def ymn (a0:(List Int)) (a1:Int) (i1:Nat) (s1:Int):Except (Int) (Int):=
 (bif ((a0.getD i1 default) != s1)then .error (-1)else .ok (IntKind.wrap .i64 (s1+1)))
def zsb (a0:(List Int)) (a1:Int):Int:=
 (match ye (ymn a0 a1) (a0.length-0) 0 a1 with|.error e=>e|.ok s1=>s1)
namespace N161
theorem DD:DOk Tryz.prog (Go.Ab.DD []):=yc _
theorem den (a0:(List Int)) (a1:Int)  : Den Tryz.prog 161 [encL 1 yr a0,.int .i64 a1] (.int .i64 (zsb a0 a1)):=by
 generalize hR:zsb a0 a1=r
 unfold zsb at hR
 refine di Tryz.func161 Tryz.ntmps161 Tryz.results161 ?_
 intro c hL hc hk
 obtain⟨hL0,hL1,_⟩:=hL
 have hw0:a0.length<9223372036854775808:=Nat.lt_succ_of_le (yf hL0).1
 clear hL0 hL1
 simp only[pars,Nat.zero_add]
 iterate 2 refine rS ?_
 refine AWP.block ?_
 generalize hz1:ye (ymn a0 a1) (a0.length-0) 0 a1=z1 at hR
 refine AWP.range (ymn a0 a1) (fun i1 s1=>⟨[(0,encL 1 yr a0),(1,.int .i64 s1),(5,.int .i64 (i1:Int))],[]⟩) (fun i1 s1=>True) (a0.length) 0 a1 [] hz1 ot wt sm ?_
 clear hz1
 intro i1 s1 hi1 hW1 hz1
 refine rS ?_
 refine AWP.cond rfl (fun hb => ?_) (fun hb => ?_)
 ·have hlt1:i1<a0.length:=ot
  rw[yj hlt1]at hz1;simp only[ymn]at hz1
  refine rS ?_
  refine AWP.cond rfl (fun hb => ?_) (fun hb => ?_)
  ·simp only[hb,cond_true]at hz1
   refine rS ?_
   refine AWP.ret ?_
   subst hz1
   dsimp only at hR
   subst hR
   exact es
  ·simp only[hb,cond_false]at hz1
   iterate 2 refine rS ?_
   exact⟨_,[],hlt1,wt,hz1,sm⟩
 ·obtain rfl:i1=a0.length:=ot
  rw[yi (Nat.le_refl _)]at hz1;subst hz1;dsimp only at hR
  refine AWP.exit ?_;refine yb ?_
  refine rS ?_
  refine AWP.ret ?_
  subst hR
  exact es
end N161
def D_zsb : DF
 | [x0,x1]=>some (.int .i64 (zsb (rdL ywb x0) (rdI x1)),false,[wL 1 yr ywb x0,wI .i64 x1])
 | _=>none
theorem yew:OkD Tryz.prog 161 D_zsb:=by unfold D_zsb;exact dk N161.den
end Go.Ab

namespace Go.Ab
open Go Go.Proofs
def yng (v:Int):Int:=v
theorem yke (a:List Int) (k:Int):(zn a k).2.length=a.length:=by
 unfold zn
 obtain⟨t,h1,h2⟩:=yy (b:=yvu a k) (fun _ s=>s.2.length=a.length) (k:=a.length-0) (i:=0) (s:=(k,a)) rfl (by
  intro j u _ _ h
  exact⟨_,rfl,by simpa using h⟩)
 rw[h1]
 exact h2
theorem yik (a:List Int) (k:Int):subL (zn a k).2 0 a.length=(zn a k).2:=by
 rw[← yke a k];exact y3c _
theorem y5bb (a:List Int) (k:Int) (h0:0≤k) (h1:k+1 * a.length<4611686018427387904):zn a k=(k+1 * a.length,(List.range a.length).map (fun j:Nat=>yng (k+1 * j))):=by
 unfold zn
 obtain⟨t,q1,q2,q3,q4⟩:=yy (b:=yvu a k) (fun i s=>s.1=k+1 * i∧s.2.length=a.length∧∀ j,j<i→s.2.getD j default=yng (k+1 * j)) (k:=a.length-0) (i:=0) (s:=(k,a)) ⟨by simp,rfl,by intro j hj;omega⟩ (by
  intro j u _ hj ⟨h2,h3,h4⟩
  have w1:∀ m:Int,0≤m→m<4611686018427387904→IntKind.wrap .i64 (m+1)=m+1:=by intro m _ _;rw[IntKind.wrap_i64];omega
  have w0:∀ m:Int,0≤m→m<4611686018427387904→IntKind.wrap .i64 m=m:=by intro m _ _;rw[IntKind.wrap_i64];omega
  refine⟨_,rfl,?_,?_,?_⟩
  ·simp only[h2,IntKind.wrap_i64];omega
  ·simpa using h3
  ·intro q hq
   simp only
   rw[ymi]
   by_cases h:q=j
   ·subst h
    rw[if_pos ⟨rfl,by omega⟩,h2]
    simp only[yng]
    all_goals (try rw[Int.mk.injEq])
    all_goals (and_intros<;>first|rfl|trivial|(simp only[IntKind.wrap_i64];omega)|(congr 1;(simp only[IntKind.wrap_i64];omega)))
   ·rw[if_neg (fun hh=>h hh.1)]
    exact h4 q (by omega))
 rw[q1]
 simp only[Nat.zero_add,Nat.sub_zero]at q2 q4
 simp only[q2]
 congr 1
 apply yax
 ·simpa using q3
 ·intro i hi
  rw[q4 i (by omega)]
  simp[List.getD_eq_getElem?_getD]
  rw[List.getElem?_range (by omega)]
  rfl
theorem zn_k (a:List Int) (k:Int) (h0:0≤k) (h1:k≤1152921504606846976) (hl:a.length<1099511627776):(zn a k).1=k+1 * a.length:=by
 rw[y5bb a k h0 (by omega)]
theorem yhz (a:List Int) (k:Int) (h0:0≤k) (hk:k≤1152921504606846976) (h1:a.length<1099511627776):zsb (zn a k).2 k=(zn a k).1∧¬ (zn a k).1<0:=by
 rw[y5bb a k h0 (by omega)]
 refine⟨?_,by simp only;omega⟩
 simp only
 unfold zsb
 obtain⟨t,q1,q2⟩:=yy (b:=ymn ((List.range a.length).map (fun j:Nat=>yng (k+1 * j))) k) (fun i s=>s=k+1 * (i:Int)) (k:=((List.range a.length).map (fun j:Nat=>yng (k+1 * j))).length-0) (i:=0) (s:=k) (by simp) (by
  intro j u _ hj h2
  have hj2:j<a.length:=by simpa using hj
  have hg:((List.range a.length).map (fun j:Nat=>yng (k+1 * j))).getD j default=yng (k+1 * j):=by
   simp[List.getD_eq_getElem?_getD,hj2]
  subst h2
  refine⟨k+1 * ((j+1:Nat):Int),?_,rfl⟩
  have e1:∀ m:Int,0≤m→m<4611686018427387904→(m+9223372036854775808) % 18446744073709551616-9223372036854775808=m:=by intro m _ _;omega
  simp only[ymn]
  simp only[hg]
  simp only[yng,IntKind.wrap_i64]
  (repeat rw[e1 _ (by omega) (by omega)])
  simp only[Int.add_assoc,Int.reduceAdd,bne_self_eq_false,cond_false,Except.ok.injEq]
  omega)
 rw[q1]
 simp only[q2]
 simp
end Go.Ab

namespace Go.Ab
open Go Go.Proofs
def zeb (a0:Character) (a1:Int):Int×Character:=
 (((zn a0.Group a1).1),{ a0 with Group:=(zn a0.Group a1).2 })
namespace N139
theorem DD:DOk Tryz.prog (Go.Ab.DD [(121,dM [true,false] D_zn)]):=ya ys2.e <| yc _
theorem dn:type_of% (And.intro @D_zn.eq_1 <| @yik):=And.intro @D_zn.eq_1 <| @yik
theorem ol:type_of% (@yke):=@yke
theorem gr {p:Prop} (h:p:=by(grind [yke]);first|done|fail):p:=h
theorem o1 {p:Prop} (h:p:=by(first|exact mrg);first|done|fail):p:=h
theorem den (a0:Character) (a1:Int) (hp0:a1≤9223372036854775807):DenM Tryz.prog 139 [.agg (y8 a0),.int .i64 a1] (.int .i64 ((zeb a0 a1).1)) [(.agg [.any,(ownL 2 1 yr (((zeb a0 a1).2).Group)),.any,.any,.any]),.any]:=by
 generalize hR:zeb a0 a1=r
 unfold zeb at hR
 refine dj (gb:=[true,false]) Tryz.func139 Tryz.ntmps139 Tryz.results139 ?_
 intro c hL hc hk
 obtain⟨hL0,hL1,_⟩:=hL
 have hw0:bwCharacter a0:=yem a0 hL0
 clear hL0 hL1
 simp only[adEL,adE,adRL,adR,ownL,encL,sv,List.nil_append,List.append_nil,List.cons_append,List.length_cons,List.length_nil,pars,Nat.zero_add,Nat.reduceAdd]at hk ⊢
 iterate 3 refine rS ?_
 refine AWP.ret ?_
 subst hR
 exact es
end N139
def D_zeb : List AV → Option (AV × List AV × List Prop)
 | [x0,x1]=>some (.int .i64 ((zeb (rdG yd x0) (rdI x1)).1),[(.agg [.any,(ownL 2 1 yr (((zeb (rdG yd x0) (rdI x1)).2).Group)),.any,.any,.any]),.any],[wGO y8 yd x0,wI .i64 x1,(rdI x1)≤9223372036854775807])
 | _=>none
theorem yp5:OkM Tryz.prog 139 D_zeb:=by unfold D_zeb;exact dm N139.den
end Go.Ab

namespace Go.Ab
open Go Go.Proofs
def zmf (a0:Character) (a1:Int):Int:=
 (bif decide ((zsb a0.Group a1)<0)then(-1)else(zsb a0.Group a1))
namespace N140
theorem DD:DOk Tryz.prog (Go.Ab.DD [(161,dP D_zsb)]):=ya yew.e <| yc _
theorem dn:type_of% (And.intro @D_zsb.eq_1 <| @yik):=And.intro @D_zsb.eq_1 <| @yik
theorem ol:type_of% (@yke):=@yke
theorem gr {p:Prop} (h:p:=by(grind [yke]);first|done|fail):p:=h
theorem o1 {p:Prop} (h:p:=by(first|exact mrg);first|done|fail):p:=h
theorem den (a0:Character) (a1:Int) (hp0:a1≤9223372036854775807):Den Tryz.prog 140 [.agg (yg a0),.int .i64 a1] (.int .i64 (zmf a0 a1)):=by
 generalize hR:zmf a0 a1=r
 unfold zmf at hR
 refine di Tryz.func140 Tryz.ntmps140 Tryz.results140 ?_
 intro c hL hc hk
 obtain⟨hL0,hL1,_⟩:=hL
 have hw0:bwCharacter a0:=yn a0 hL0
 clear hL0 hL1
 simp only[pars,Nat.zero_add]
 iterate 3 refine rS ?_
 refine AWP.cond rfl (fun hb => ?_) (fun hb => ?_)
 ·replace hR:=ct hR
  refine rS ?_
  refine AWP.ret ?_
  subst hR
  exact es
 ·replace hR:=cf hR
  refine rS ?_
  refine AWP.ret ?_
  subst hR
  exact es
end N140
def D_zmf : DF
 | [x0,x1]=>some (.int .i64 (zmf (rdG yd x0) (rdI x1)),false,[wG yg yd x0,wI .i64 x1,(rdI x1)≤9223372036854775807])
 | _=>none
theorem y16:OkD Tryz.prog 140 D_zmf:=by unfold D_zmf;exact dk N140.den
end Go.Ab

namespace Go.Ab
open Go Go.Proofs
theorem ypcb (a:Character) (k:Int) (h0:0≤k) (h1:k≤1073741824) (b1:a.Group.length<1099511627776):(zeb a k).1=k+1 * a.Group.length:=by
 unfold zeb
 simp only
 rw[zn_k _ _ (by omega) (by omega) b1]
theorem ylg (a:Character) (k:Int):(zeb a k).2.Group.length=a.Group.length:=by
 unfold zeb
 simp only[yke]
theorem yop (a:Character) (k:Int):subL (zeb a k).2.Group 0 a.Group.length=(zeb a k).2.Group:=by
 rw[← ylg a k];exact y3c _
theorem y44 (a:Character) (k:Int) (h0:0≤k) (h1:k≤1073741824) (b1:a.Group.length<1099511627776):zmf (zeb a k).2 k=(zeb a k).1∧¬ (zeb a k).1<0:=by
 have hk:=ypcb a k h0 h1 b1
 refine⟨?_,by omega⟩
 rw[hk]
 have e1:=yhz a.Group k h0 (by omega) b1
 have e3:=zn_k a.Group k h0 (by omega) b1
 unfold zmf zeb
 simp only[e1.1]
 rw[decide_eq_false e1.2]
 simp only[cond_false]
 omega
end Go.Ab

namespace Go.Ab
open Go Go.Proofs
def ynx (a0:Int) (s1:Int×List UInt8):Except (Sum ((List UInt8)) (Int×List UInt8)) (Int×List UInt8):=
 (bif decide (0<s1.1)then .ok (IntKind.wrap .i64 (s1.1.tdiv 10),(([IntKind.wrap .u8 (IntKind.wrap .i64 (48+(s1.1.tmod 10)))]:List Int).map fun z=>UInt8.ofNat z.toNat)++s1.2)else .error (.inr (s1.1,s1.2)))
def zhb (a0:Int):(List UInt8):=
 (bif decide (a0≤0)then[109,48]else(match y3 (ynx a0) (((a0).toNat)+1) (a0,[])with|.error (.inl e)=>e|.error (.inr s1)=>[109]++s1.2|.ok _=>default))
namespace N120
theorem DD:DOk Tryz.prog (Go.Ab.DD []):=yc _
theorem den (a0:Int) (hp0:a0≤9223372036854775807):Den Tryz.prog 120 [.int .i64 a0] (.str (zhb a0)):=by
 generalize hR:zhb a0=r
 unfold zhb at hR
 refine di Tryz.func120 Tryz.ntmps120 Tryz.results120 ?_
 intro c hL hc hk
 clear hL
 simp only[pars,Nat.zero_add]
 iterate 2 refine rS ?_
 refine AWP.cond rfl (fun hb => ?_) (fun hb => ?_)
 ·replace hR:=ct hR
  refine rS ?_
  refine AWP.ret ?_
  subst hR
  exact es
 ·replace hR:=cf hR
  refine rS ?_
  refine AWP.seq ?_
  refine AWP.block ?_
  generalize hz1:y3 (ynx a0) (((a0).toNat)+1) (a0,[])=z1 at hR
  refine AWP.whileW (ynx a0) (fun s1=>⟨[(0,.int .i64 s1.1),(3,.str s1.2)],[]⟩) (fun s1=>0≤s1.1∧s1.2.length≤19∧s1.1 * 10 ^ s1.2.length≤a0) (fun s1=>(s1.1).toNat) (((a0).toNat)+1) (a0,[]) [] hz1 m0 (by(refine⟨by have:=of_decide_eq_false hb;simp only;omega,by simp,by simp⟩)) sm ?_
  clear hz1
  intro s1 k1 hW1 hm1 hz1
  simp only[ynx]at hz1
  refine rS ?_
  refine AWP.cond rfl (fun hb => ?_) (fun hb => ?_)
  ·simp only[hb,cond_true]at hz1
   iterate 2 refine rS ?_
   exact⟨_,[],by(exact Nat.lt_of_lt_of_le (digd hW1 hb hp0) (Nat.le_of_lt_succ hm1)),by(exact digw rfl hW1 hb hp0),hz1,sm⟩
  ·simp only[hb,cond_false]at hz1
   refine AWP.exit ?_
   refine yb ?_
   subst hz1;dsimp only at hR
   refine rS ?_
   refine AWP.ret ?_
   subst hR
   exact es
end N120
def D_zhb : DF
 | [x0]=>some (.str (zhb (rdI x0)),false,[wI .i64 x0,(rdI x0)≤9223372036854775807])
 | _=>none
theorem ybl:OkD Tryz.prog 120 D_zhb:=by unfold D_zhb;exact dk N120.den
end Go.Ab

namespace Go.Ab
open Go Go.Proofs
def ycn (a0:(List Sector)) (a1:Int) (i1:Nat) (s1:Int×List Sector):Except (Int×(List Sector)) (Int×List Sector):=
 .ok (IntKind.wrap .i64 ((IntKind.wrap .i64 ((IntKind.wrap .i64 (s1.1+1))+1))+1),s1.2.set i1 ({ From:=s1.1,To:=IntKind.wrap .i64 (s1.1+1),Color:=(zhb (IntKind.wrap .i64 ((IntKind.wrap .i64 (s1.1+1))+1))):Sector }))
def zib (a0:(List Sector)) (a1:Int):Int×(List Sector):=
 (match ye (ycn a0 a1) (a0.length-0) 0 (a1,a0)with|.error e=>e|.ok s1=>(s1.1,s1.2))
namespace N122
theorem DD:DOk Tryz.prog (Go.Ab.DD [(120,dP D_zhb)]):=ya ybl.e <| yc _
theorem dn:type_of% (@D_zhb.eq_1):=by and_intros<;>intros<;>rfl
theorem den (a0:(List Sector)) (a1:Int) (hp0:a1≤9223372036854775807):DenM Tryz.prog 122 [ownL 188 3 yk a0,.int .i64 a1] (.int .i64 ((zib a0 a1).1)) [(ownL 188 3 yk ((zib a0 a1).2)),.any]:=by
 generalize hR:zib a0 a1=r
 unfold zib at hR
 refine dj (gb:=[true,false]) Tryz.func122 Tryz.ntmps122 Tryz.results122 ?_
 intro c hL hc hk
 obtain⟨hL0,hL1,_⟩:=hL
 have hw0:a0.length<9223372036854775808:=Nat.lt_succ_of_le (ylb hL0).1
 have hw1:∀ v∈a0,bwSector v:=fun v hv=>yt v ((ylb hL0).2 v hv)
 clear hL0 hL1
 simp only[adEL,adE,adRL,adR,ownL,encL,sv,List.nil_append,List.append_nil,List.cons_append,List.length_cons,List.length_nil,pars,Nat.zero_add,Nat.reduceAdd]at hk ⊢
 iterate 2 refine rS ?_
 refine AWP.block ?_
 generalize hz1:ye (ycn a0 a1) (a0.length-0) 0 (a1,a0)=z1 at hR
 refine AWP.range (ycn a0 a1) (fun i1 s1=>⟨[(0,.ref 0 3 0 s1.2.length),(1,.int .i64 s1.1),(5,.int .i64 (i1:Int))],[.arr 188 3 s1.2.length (fun j=>yk (s1.2.getD j default))]⟩) (fun i1 s1=>s1.2.length=a0.length∧s1.1≤9223372036854775807) (a0.length) 0 (a1,a0) [0] hz1 ot wt sm ?_
 clear hz1
 intro i1 s1 hi1 hW1 hz1
 refine rS ?_
 refine AWP.cond rfl (fun hb => ?_) (fun hb => ?_)
 ·have hlt1:i1<a0.length:=ot
  rw[yj hlt1]at hz1;simp only[ycn]at hz1
  iterate 7 refine rS ?_
  exact⟨_,[0],hlt1,by(exact mrg),hz1,sm⟩
 ·obtain rfl:i1=a0.length:=ot
  rw[yi (Nat.le_refl _)]at hz1;subst hz1;dsimp only at hR
  refine AWP.exit ?_;refine yb ?_
  refine rS ?_
  refine AWP.ret ?_
  subst hR
  exact es
end N122
def D_zib : List AV → Option (AV × List AV × List Prop)
 | [x0,x1]=>some (.int .i64 ((zib (rdL yq x0) (rdI x1)).1),[(ownL 188 3 yk ((zib (rdL yq x0) (rdI x1)).2)),.any],[wO 188 3 yk yq x0,wI .i64 x1,(rdI x1)≤9223372036854775807])
 | _=>none
theorem yyw:OkM Tryz.prog 122 D_zib:=by unfold D_zib;exact dm N122.den
end Go.Ab

namespace Go.Ab
open Go Go.Proofs
theorem ypf (a:List Int) (k:Int) (h:k≤9223372036854775807):(zn a k).1≤9223372036854775807:=by
 unfold zn
 obtain⟨t,h1,h2⟩:=yy (b:=yvu a k) (fun _ s=>s.1≤9223372036854775807) (k:=a.length-0) (i:=0) (s:=(k,a)) h (by
  intro j u _ _ h
  exact⟨_,rfl,yye _⟩)
 rw[h1]
 exact h2
theorem yvb (a:List Sector) (k:Int) (h:k≤9223372036854775807):(zib a k).1≤9223372036854775807:=by
 unfold zib
 obtain⟨t,h1,h2⟩:=yy (b:=ycn a k) (fun _ s=>s.1≤9223372036854775807) (k:=a.length-0) (i:=0) (s:=(k,a)) h (by
  intro j u _ _ h
  exact⟨_,rfl,yye _⟩)
 rw[h1]
 exact h2
theorem y6 (a:List Sector) (k:Int):(zib a k).2.length=a.length:=by
 unfold zib
 obtain⟨t,h1,h2⟩:=yy (b:=ycn a k) (fun _ s=>s.2.length=a.length) (k:=a.length-0) (i:=0) (s:=(k,a)) rfl (by
  intro j u _ _ h
  exact⟨_,rfl,by simpa using h⟩)
 rw[h1]
 exact h2
theorem yjb (a:List Sector) (k:Int):subL (zib a k).2 0 a.length=(zib a k).2:=by
 rw[← y6 a k];exact y3c _
end Go.Ab

namespace Go.Ab
open Go Go.Proofs
def ysm (a0:(List Sector)) (a1:Int) (i1:Nat) (s1:Int):Except (Int) (Int):=
 (bif (((a0.getD i1 default).From) != s1)then .error (-1)else(bif (((a0.getD i1 default).To) != (IntKind.wrap .i64 (s1+1)))then .error (-1)else(bif (((a0.getD i1 default).Color) != (zhb (IntKind.wrap .i64 ((IntKind.wrap .i64 (s1+1))+1))))then .error (-1)else .ok (IntKind.wrap .i64 ((IntKind.wrap .i64 ((IntKind.wrap .i64 (s1+1))+1))+1)))))
def zoc (a0:(List Sector)) (a1:Int):Int:=
 (match ye (ysm a0 a1) (a0.length-0) 0 a1 with|.error e=>e|.ok s1=>s1)
namespace N141
theorem DD:DOk Tryz.prog (Go.Ab.DD [(120,dP D_zhb)]):=ya ybl.e <| yc _
theorem dn:type_of% (@D_zhb.eq_1):=by and_intros<;>intros<;>rfl
theorem den (a0:(List Sector)) (a1:Int) (hp0:a1≤9223372036854775807):Den Tryz.prog 141 [encL 3 yk a0,.int .i64 a1] (.int .i64 (zoc a0 a1)):=by
 generalize hR:zoc a0 a1=r
 unfold zoc at hR
 refine di Tryz.func141 Tryz.ntmps141 Tryz.results141 ?_
 intro c hL hc hk
 obtain⟨hL0,hL1,_⟩:=hL
 have hw0:a0.length<9223372036854775808:=Nat.lt_succ_of_le (yf hL0).1
 have hw1:∀ v∈a0,bwSector v:=fun v hv=>yt v ((yf hL0).2 v hv)
 clear hL0 hL1
 simp only[pars,Nat.zero_add]
 iterate 2 refine rS ?_
 refine AWP.block ?_
 generalize hz1:ye (ysm a0 a1) (a0.length-0) 0 a1=z1 at hR
 refine AWP.range (ysm a0 a1) (fun i1 s1=>⟨[(0,encL 3 yk a0),(1,.int .i64 s1),(5,.int .i64 (i1:Int))],[]⟩) (fun i1 s1=>s1≤9223372036854775807) (a0.length) 0 a1 [] hz1 ot wt sm ?_
 clear hz1
 intro i1 s1 hi1 hW1 hz1
 refine rS ?_
 refine AWP.cond rfl (fun hb => ?_) (fun hb => ?_)
 ·have hlt1:i1<a0.length:=ot
  rw[yj hlt1]at hz1;simp only[ysm]at hz1
  refine rS ?_
  refine AWP.cond rfl (fun hb => ?_) (fun hb => ?_)
  ·simp only[hb,cond_true]at hz1
   refine rS ?_
   refine AWP.ret ?_
   subst hz1
   dsimp only at hR
   subst hR
   exact es
  ·simp only[hb,cond_false]at hz1
   iterate 2 refine rS ?_
   refine AWP.cond rfl (fun hb => ?_) (fun hb => ?_)
   ·simp only[hb,cond_true]at hz1
    refine rS ?_
    refine AWP.ret ?_
    subst hz1
    dsimp only at hR
    subst hR
    exact es
   ·simp only[hb,cond_false]at hz1
    refine rS ?_
    refine rD 7 ?_
    refine AWP.cond rfl (fun hb => ?_) (fun hb => ?_)
    ·simp only[hb,cond_true]at hz1
     refine rS ?_
     refine AWP.ret ?_
     subst hz1
     dsimp only at hR
     subst hR
     exact es
    ·simp only[hb,cond_false]at hz1
     iterate 2 refine rS ?_
     exact⟨_,[],hlt1,by(exact mrg),hz1,sm⟩
 ·obtain rfl:i1=a0.length:=ot
  rw[yi (Nat.le_refl _)]at hz1;subst hz1;dsimp only at hR
  refine AWP.exit ?_;refine yb ?_
  refine rS ?_
  refine AWP.ret ?_
  subst hR
  exact es
end N141
def D_zoc : DF
 | [x0,x1]=>some (.int .i64 (zoc (rdL yq x0) (rdI x1)),false,[wL 3 yk yq x0,wI .i64 x1,(rdI x1)≤9223372036854775807])
 | _=>none
theorem yox:OkD Tryz.prog 141 D_zoc:=by unfold D_zoc;exact dk N141.den
end Go.Ab

namespace Go.Ab
open Go Go.Proofs
theorem yio {ρ σ : Type} {b : Nat → σ → Except ρ σ} (P : σ → Prop) (Q : ρ → Prop) (h : ∀ j u, P u → (∀ e, b j u = .error e → Q e) ∧ (∀ v, b j u = .ok v → P v)) : ∀ (k i : Nat) (s : σ), P s → (∀ e, ye b k i s = .error e → Q e) ∧ (∀ v, ye b k i s = .ok v → P v)
 | 0,i,s,hs=>⟨fun e he=>by simp[ye]at he,fun v hv=>by simp only[ye,Except.ok.injEq]at hv;subst hv;exact hs⟩
 | k+1,i,s,hs=>by
  have h0:=h i s hs
  simp only[ye]
  cases hb:b i s with
  | error r=>exact⟨fun e he=>by cases he;exact h0.1 _ hb,fun v hv=>by cases hv⟩
  | ok t=>exact yio P Q h k (i+1) t (h0.2 _ hb)
theorem ym3 {b:Nat→Int→Except Int Int} (h:∀ j u,u≤9223372036854775807→(∀ e,b j u=.error e→e≤9223372036854775807)∧(∀ v,b j u=.ok v→v≤9223372036854775807)) (k i:Nat) (s:Int) (hs:s≤9223372036854775807) :
  (match ye b k i s with|.error e=>e|.ok v=>v)≤9223372036854775807:=by
 have:=yio (fun x=>x≤9223372036854775807) (fun x=>x≤9223372036854775807) h k i s hs
 cases hl:ye b k i s with
 | error e=>exact this.1 _ hl
 | ok v=>exact this.2 _ hl
theorem yxi (a:List Int) (k:Int) (h:k≤9223372036854775807):zsb a k≤9223372036854775807:=by
 unfold zsb
 refine ym3 (fun j u hu => ?_) _ _ _ h
 simp only[ymn,Bool.cond_eq_ite]
 (repeat' split)<;>refine⟨fun e he => ?_,fun v hv => ?_⟩<;>first|(cases he<;>first|exact yye _|decide)|(cases hv<;>first|exact yye _|decide)
theorem yun (a:List Sector) (k:Int) (h:k≤9223372036854775807):zoc a k≤9223372036854775807:=by
 unfold zoc
 refine ym3 (fun j u hu => ?_) _ _ _ h
 simp only[ysm,Bool.cond_eq_ite]
 (repeat' split)<;>refine⟨fun e he => ?_,fun v hv => ?_⟩<;>first|(cases he<;>first|exact yye _|decide)|(cases hv<;>first|exact yye _|decide)
end Go.Ab

namespace Go.Ab
open Go Go.Proofs
theorem wr1 {k:Int} (h0:0≤k) (h1:k<4611686018427387904):IntKind.wrap .i64 (k+1)=k+1:=by rw[IntKind.wrap_i64];omega
def y7b (x:Sector) (k:Int):Int×Sector:=
 (IntKind.wrap .i64 ((IntKind.wrap .i64 ((IntKind.wrap .i64 (k+1))+1))+1),{ From:=k,To:=IntKind.wrap .i64 (k+1),Color:=(zhb (IntKind.wrap .i64 ((IntKind.wrap .i64 (k+1))+1))):Sector })
theorem yok (x:Sector) (k:Int) (h0:0≤k) (h1:k≤2305843009213693952):(y7b x k).1=k+3:=by
 unfold y7b
 simp(disch:=omega) only[wr1]
 omega
theorem yni (a:List Sector) (k:Int):zib a k=ydd y7b a k:=by
 unfold zib
 have:=yrj y7b (ycn a k) (fun i s=>rfl) a [] k
 simp only[List.length_nil,List.nil_append,Nat.sub_zero]at this ⊢
 rw[this]
theorem yaz : ∀ (a : List Sector) (k : Int), 0 ≤ k → k + 3 * a.length ≤ 2305843009213693952 → (ydd y7b a k).1 = k + 3 * a.length
 | [],k,_,_=>by simp[ydd]
 | x::a,k,h0,h1=>by
  simp only[List.length_cons]at h1 ⊢
  simp only[ydd]
  have hk:=yok x k h0 (by omega)
  rw[yaz a _ (by omega) (by omega),hk]
  omega
theorem ywf (a:List Sector) (k:Int) (h0:0≤k) (h1:k≤1152921504606846976) (hl:a.length≤1099511627776):(zib a k).1=k+3 * a.length:=by
 rw[yni,yaz a k h0 (by omega)]
theorem y0f (a:List Sector) (k:Int) (h0:0≤k) (h1:k≤1152921504606846976) (hl:a.length≤1099511627776):zoc (zib a k).2 k=(zib a k).1∧¬ (zib a k).1<0:=by
 refine⟨?_,by rw[ywf a k h0 h1 hl];omega⟩
 rw[yni]
 unfold zoc
 rw[ykn,Nat.sub_zero]
 rw[yyj y7b (ysm (ydd y7b a k).2 k) (fun _=>True) 3 2305843009213693952 (by omega) (fun x k _ g0 g1=>by rw[yok x k g0 g1];omega) a 0 k (fun _ _=>trivial) h0 (by omega) (fun j x s _ g0 g1 g2=>by
  have e:(ydd y7b a k).2.getD (0+j) default=(y7b x s).2:=by rw[Nat.zero_add,List.getD_eq_getElem?_getD,g2];rfl
  simp only[ysm,e]
  simp only[y7b,bne_self_eq_false,cond_false])]
end Go.Ab

namespace Go.Ab
open Go Go.Proofs
theorem y1f (a:Character) (k:Int) (h:k≤9223372036854775807):(zeb a k).1≤9223372036854775807:=by
 unfold zeb
 exact ypf _ _ h
end Go.Ab

namespace Go.Ab
open Go Go.Proofs
def zkc (a0:Aid) (a1:Int):Int×Aid:=
 (((zib a0.Sectors ((zeb a0.Light a1).1)).1),{ a0 with Light:={ a0.Light with Group:=((zeb a0.Light a1).2).Group },Sectors:=(zib a0.Sectors ((zeb a0.Light a1).1)).2 })
namespace N55
theorem DD:DOk Tryz.prog (Go.Ab.DD [(122,dM [true,false] D_zib),(139,dM [true,false] D_zeb)]):=ya yyw.e <| ya yp5.e <| yc _
theorem dn:type_of% (And.intro @D_zib.eq_1 <| And.intro @D_zeb.eq_1 <| And.intro @yjb <| @yop):=And.intro @D_zib.eq_1 <| And.intro @D_zeb.eq_1 <| And.intro @yjb <| @yop
theorem ol:type_of% (And.intro @y6 <| @ylg):=And.intro @y6 <| @ylg
theorem gr {p:Prop} (h:p:=by(grind [yvb,ylg]);first|done|fail):p:=h
theorem o1 {p:Prop} (h:p:=by(first|(exact mrg)|(exact y1f _ _ hp0));first|done|fail):p:=h
theorem den (a0:Aid) (a1:Int) (hp0:a1≤9223372036854775807):DenM Tryz.prog 55 [.agg (yfh a0),.int .i64 a1] (.int .i64 ((zkc a0 a1).1)) [(.agg [.any,.any,.any,.any,.any,.any,.any,.any,.any,.any,(ownL 2 1 yr ((((zkc a0 a1).2).Light).Group)),.any,.any,.any,(ownL 188 3 yk (((zkc a0 a1).2).Sectors)),.any]),.any]:=by
 generalize hR:zkc a0 a1=r
 unfold zkc at hR
 refine dj (gb:=[true,false]) Tryz.func55 Tryz.ntmps55 Tryz.results55 ?_
 intro c hL hc hk
 obtain⟨hL0,hL1,_⟩:=hL
 have hw0:bwAid a0:=yjn a0 hL0
 clear hL0 hL1
 simp only[adEL,adE,adRL,adR,ownL,encL,sv,List.nil_append,List.append_nil,List.cons_append,List.length_cons,List.length_nil,pars,Nat.zero_add,Nat.reduceAdd]at hk ⊢
 iterate 4 refine rS ?_
 refine AWP.ret ?_
 subst hR
 exact es
end N55
def D_zkc : List AV → Option (AV × List AV × List Prop)
 | [x0,x1]=>some (.int .i64 ((zkc (rdG dAid x0) (rdI x1)).1),[(.agg [.any,.any,.any,.any,.any,.any,.any,.any,.any,.any,(ownL 2 1 yr ((((zkc (rdG dAid x0) (rdI x1)).2).Light).Group)),.any,.any,.any,(ownL 188 3 yk (((zkc (rdG dAid x0) (rdI x1)).2).Sectors)),.any]),.any],[wGO yfh dAid x0,wI .i64 x1,(rdI x1)≤9223372036854775807])
 | _=>none
theorem y75:OkM Tryz.prog 55 D_zkc:=by unfold D_zkc;exact dm N55.den
end Go.Ab

namespace Go.Ab
open Go Go.Proofs
theorem yxk (a:Character) (k:Int) (h:k≤9223372036854775807):zmf a k≤9223372036854775807:=by
 unfold zmf
 have h1:=yxi a.Group k h
 rw[Bool.cond_eq_ite]
 split
 ·omega
 ·exact h1
end Go.Ab

namespace Go.Ab
open Go Go.Proofs
def zmh (a0:Aid) (a1:Int):Int:=
 (bif decide ((zmf a0.Light a1)<0)then(-1)else(bif decide ((zoc a0.Sectors (zmf a0.Light a1))<0)then(-1)else(zoc a0.Sectors (zmf a0.Light a1))))
namespace N56
theorem DD:DOk Tryz.prog (Go.Ab.DD [(140,dP D_zmf),(141,dP D_zoc)]):=ya y16.e <| ya yox.e <| yc _
theorem dn:type_of% (And.intro @D_zmf.eq_1 <| And.intro @D_zoc.eq_1 <| And.intro @yop <| @yjb):=And.intro @D_zmf.eq_1 <| And.intro @D_zoc.eq_1 <| And.intro @yop <| @yjb
theorem ol:type_of% (And.intro @ylg <| @y6):=And.intro @ylg <| @y6
theorem gr {p:Prop} (h:p:=by(grind [ylg,yvb]);first|done|fail):p:=h
theorem o1 {p:Prop} (h:p:=by(first|(exact mrg)|(exact yxk _ _ hp0));first|done|fail):p:=h
theorem den (a0:Aid) (a1:Int) (hp0:a1≤9223372036854775807):Den Tryz.prog 56 [.agg (eAid a0),.int .i64 a1] (.int .i64 (zmh a0 a1)):=by
 generalize hR:zmh a0 a1=r
 unfold zmh at hR
 refine di Tryz.func56 Tryz.ntmps56 Tryz.results56 ?_
 intro c hL hc hk
 obtain⟨hL0,hL1,_⟩:=hL
 have hw0:bwAid a0:=yxb a0 hL0
 clear hL0 hL1
 simp only[pars,Nat.zero_add]
 iterate 3 refine rS ?_
 refine AWP.cond rfl (fun hb => ?_) (fun hb => ?_)
 ·replace hR:=ct hR
  refine rS ?_
  refine AWP.ret ?_
  subst hR
  exact es
 ·replace hR:=cf hR
  iterate 2 refine rS ?_
  refine AWP.cond rfl (fun hb => ?_) (fun hb => ?_)
  ·replace hR:=ct hR
   refine rS ?_
   refine AWP.ret ?_
   subst hR
   exact es
  ·replace hR:=cf hR
   refine rS ?_
   refine AWP.ret ?_
   subst hR
   exact es
end N56
def D_zmh : DF
 | [x0,x1]=>some (.int .i64 (zmh (rdG dAid x0) (rdI x1)),false,[wG eAid dAid x0,wI .i64 x1,(rdI x1)≤9223372036854775807])
 | _=>none
theorem yt6:OkD Tryz.prog 56 D_zmh:=by unfold D_zmh;exact dk N56.den
end Go.Ab

namespace Go.Ab
open Go Go.Proofs
theorem yms (a:Aid) (k:Int) (h0:0≤k) (h1:k≤1000000) (hg:a.Light.Group.length≤1048576) (hs:a.Sectors.length≤1048576):zmh (zkc a k).2 k=(zkc a k).1∧¬ (zkc a k).1<0:=by
 have hc:=y44 a.Light k h0 (by omega) (by omega)
 have hk:=ypcb a.Light k h0 (by omega) (by omega)
 have hm:=y0f a.Sectors (zeb a.Light k).1 (by omega) (by omega) (by omega)
 unfold zmh zkc
 dsimp only
 have e:({ a.Light with Group:=(zeb a.Light k).2.Group }:Character)=(zeb a.Light k).2:=rfl
 rw[e,hc.1,decide_eq_false hc.2,hm.1,decide_eq_false hm.2]
 exact⟨rfl,hm.2⟩
end Go.Ab

namespace Go.Ab
open Go Go.Proofs
theorem yocb (w:List UInt8) (hw:w.length≤1048576):bdMark (zzb w).1:=by
 cases e:(zzb w).2 with
 | true=>
  have h:=y1g (m:=(zzb w).1) (yiab.r2 w hw e).1
  exact⟨Nat.lt_of_le_of_lt h.2.2.1 (by decide),Nat.lt_of_le_of_lt h.2.2.2.1 (by decide),Nat.lt_of_le_of_lt h.2.2.2.2 (by decide)⟩
 | false=>rw[yiab.r3 w hw e];decide
theorem ytbb {l:List Sector} (h:zx l=true):l.length<1099511627776∧∀ v∈l,bdSector v:=by
 have hr:=yyh h
 refine⟨Nat.lt_of_le_of_lt hr.1 (by decide),fun v hv => ?_⟩
 obtain⟨i,hi,e⟩:=List.getElem_of_mem hv
 have h9:=(hr.2 i).2.2.2.2
 rw[List.getD_eq_getElem?_getD,List.getElem?_eq_getElem hi,Option.getD_some,e]at h9
 exact Nat.lt_of_le_of_lt h9 (by decide)
theorem ygdb (w:List UInt8) (hw:w.length≤1048576):(zac w).1.length<1099511627776∧∀ v∈(zac w).1,bdSector v:=by
 cases e:(zac w).2 with
 | true=>exact ytbb (ynab.r2 w hw e).1
 | false=>rw[ynab.r3 w hw e];exact⟨by decide,by simp⟩
theorem yvcb {c:Character} (h:zab c=true):bdCharacter c:=by
 have hf:=yic c h
 have hg:=(yjd c h).1
 have hc:=yeo h
 have hl:c.Letter.length≤1:=by
  by_cases h8:c.Kind=8
  ·rw[(ywo c hf h8).2.1];exact Nat.le_refl _
  ·by_cases hL:c.Letter=[]
   ·rw[hL];simp
   ·rw[(y82 c hf h8 hL).1];simp
 exact⟨Nat.lt_of_le_of_lt hg (by decide),Nat.lt_of_le_of_lt hl (by decide),Nat.lt_of_le_of_lt hc (by decide)⟩
theorem yxab (w:List UInt8):bdCharacter (zbd w).1:=by
 rcases yui w with h|⟨c,h1,_,h3⟩
 ·rw[h];decide
 ·rw[h3];exact yvcb h1
end Go.Ab
