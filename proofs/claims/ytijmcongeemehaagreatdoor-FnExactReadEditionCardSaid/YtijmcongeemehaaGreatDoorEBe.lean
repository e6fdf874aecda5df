/- A part of a proof: walks of functions and lemmas of our own. No conditions. -/
import Derived.Test.YtijmcongeemehaaGreatDoorEAl
import Derived.Test.YtijmcongeemehaaGreatDoorEAi
import Derived.Test.YtijmcongeemehaaGreatDoorEBd
import Derived.Test.YtijmcongeemehaaGreatDoorEAq
import Derived.Test.YtijmcongeemehaaGreatDoorEBc
import Derived.Test.YtijmcongeemehaaGreatDoorEBb
import Derived.Test.YtijmcongeemehaaGreatDoorEAx
import Derived.Test.YtijmcongeemehaaGreatDoorEAv
import Derived.Test.YtijmcongeemehaaGreatDoorEAt
import Derived.Test.YtijmcongeemehaaGreatDoorEAw
import Derived.Test.YtijmcongeemehaaGreatDoorEAy
import Derived.Test.YtijmcongeemehaaGreatDoorEAu
import Derived.Test.YtijmcongeemehaaGreatDoorEAz
import Derived.Test.YtijmcongeemehaaGreatDoorEBa
set_option linter.unusedSectionVars false
set_option linter.unusedVariables false
set_option linter.unusedSimpArgs false
set_option maxHeartbeats 1000000
namespace Go.Ab
open Go Go.Proofs
def yen (a0:(List Int)) (a1:(List Int)) (i1:Nat) (s1:Unit):Except (Bool) (Unit):=
 (bif ((a0.getD i1 default) != (a1.getD i1 default))then .error false else .ok ())
def ztd (a0:(List Int)) (a1:(List Int)):Bool:=
 (bif ((a0.length:Int) != (a1.length:Int))then false else(match yd (yen a0 a1) (a0.length-0) 0 ()with|.error e=>e|.ok s1=>true))
namespace N148
theorem DD:DOk Tryz.prog (Go.Ab.DD []):=ye _
theorem den (a0:(List Int)) (a1:(List Int))  : Den Tryz.prog 148 [encL 1 yt a0,encL 1 yt a1] (.bool (ztd a0 a1)):=by
 generalize hR:ztd a0 a1=r;unfold ztd at hR;refine di Tryz.func148 Tryz.ntmps148 Tryz.results148 ?_;intro c hL hc hk;obtain⟨hL0,hL1,_⟩:=hL;have hw0:a0.length<9223372036854775808:=Nat.lt_succ_of_le (yj hL0).1;have hw1:a1.length<9223372036854775808:=Nat.lt_succ_of_le (yj hL1).1;clear hL0 hL1;simp only[pars,Nat.zero_add];iterate 2 refine rS ?_
 refine AWP.cond rfl (fun hb => ?_) (fun hb => ?_)
 ·replace hR:=ct hR
  refine rS ?_;refine AWP.ret ?_;subst hR;exact es
 ·replace hR:=cf hR
  refine rS ?_;refine AWP.block ?_;generalize hz1:yd (yen a0 a1) (a0.length-0) 0 ()=z1 at hR;refine AWP.range (yen a0 a1) (fun i1 s1=>⟨[(0,encL 1 yt a0),(1,encL 1 yt a1),(5,.int .i64 (i1:Int))],[]⟩) (fun i1 s1=>True) (a0.length) 0 () [] hz1 ot wt sm ?_;clear hz1;intro i1 s1 hi1 hW1 hz1;refine rS ?_;refine AWP.cond rfl (fun hb => ?_) (fun hb => ?_)
  ·have hlt1:i1<a0.length:=ot
   rw[yg hlt1]at hz1;simp only[yen]at hz1;refine rD 8 ?_;refine AWP.cond rfl (fun hb => ?_) (fun hb => ?_)
   ·simp only[hb,cond_true]at hz1
    refine rS ?_;refine AWP.ret ?_;subst hz1;dsimp only at hR;subst hR;exact es
   ·simp only[hb,cond_false]at hz1
    refine rS ?_;exact⟨_,[],hlt1,wt,hz1,sm⟩
  ·obtain rfl:i1=a0.length:=ot
   rw[yh (Nat.le_refl _)]at hz1;subst hz1;dsimp only at hR;refine AWP.exit ?_;refine yb ?_;refine rS ?_;refine AWP.ret ?_;subst hR;exact es
end N148
def D_ztd : DF
 | [x0,x1]=>some (.bool (ztd (rdL y5b x0) (rdL y5b x1)),false,[wL 1 yt y5b x0,wL 1 yt y5b x1])
 | _=>none
theorem yq0:OkD Tryz.prog 148 D_ztd:=by unfold D_ztd;exact dk N148.den
def zpf (a0:Character) (a1:Character):Bool:=
 (bif (a0.Kind != a1.Kind)then false else(bif (!(ztd a0.Group a1.Group))then false else(bif (a0.Letter != a1.Letter)then false else(bif (a0.Colors != a1.Colors)then false else(bif (a0.Period != a1.Period)then false else true)))))
namespace N69
theorem DD:DOk Tryz.prog (Go.Ab.DD [(148,dP D_ztd)]):=ya yq0.e <| ye _
theorem dn:type_of% (@D_ztd.eq_1):=by and_intros<;>intros<;>rfl
theorem den (a0:Character) (a1:Character)  : Den Tryz.prog 69 [.agg (yi a0),.agg (yi a1)] (.bool (zpf a0 a1)):=by
 generalize hR:zpf a0 a1=r;unfold zpf at hR;refine di Tryz.func69 Tryz.ntmps69 Tryz.results69 ?_;intro c hL hc hk;obtain⟨hL0,hL1,_⟩:=hL;have hw0:bwCharacter a0:=yp a0 hL0;have hw1:bwCharacter a1:=yp a1 hL1;clear hL0 hL1;simp only[pars,Nat.zero_add];iterate 2 refine rS ?_
 refine AWP.cond rfl (fun hb => ?_) (fun hb => ?_)
 ·replace hR:=ct hR
  refine rS ?_;refine AWP.ret ?_;subst hR;exact es
 ·replace hR:=cf hR
  refine rS ?_;refine AWP.cond rfl (fun hb => ?_) (fun hb => ?_)
  ·replace hR:=ct hR
   refine rS ?_;refine AWP.ret ?_;subst hR;exact es
  ·replace hR:=cf hR
   refine rS ?_;refine AWP.cond rfl (fun hb => ?_) (fun hb => ?_)
   ·replace hR:=ct hR
    refine rS ?_;refine AWP.ret ?_;subst hR;exact es
   ·replace hR:=cf hR
    refine rS ?_;refine AWP.cond rfl (fun hb => ?_) (fun hb => ?_)
    ·replace hR:=ct hR
     refine rS ?_;refine AWP.ret ?_;subst hR;exact es
    ·replace hR:=cf hR
     refine rS ?_;refine AWP.cond rfl (fun hb => ?_) (fun hb => ?_)
     ·replace hR:=ct hR
      refine rS ?_;refine AWP.ret ?_;subst hR;exact es
     ·replace hR:=cf hR
      refine rS ?_;refine AWP.ret ?_;subst hR;exact es
end N69
def D_zpf : DF
 | [x0,x1]=>some (.bool (zpf (rdG yc x0) (rdG yc x1)),false,[wG yi yc x0,wG yi yc x1])
 | _=>none
theorem y40:OkD Tryz.prog 69 D_zpf:=by unfold D_zpf;exact dk N69.den
def y3t (a0:(List Int)) (a1:Int) (i1:Nat) (s1:Int×List Int):Except (Int×(List Int)) (Int×List Int):=
 .ok (IntKind.wrap .i64 (s1.1+1),s1.2.set i1 s1.1)
def zp (a0:(List Int)) (a1:Int):Int×(List Int):=
 (match yd (y3t a0 a1) (a0.length-0) 0 (a1,a0)with|.error e=>e|.ok s1=>(s1.1,s1.2))
namespace N182
theorem DD:DOk Tryz.prog (Go.Ab.DD []):=ye _
theorem den (a0:(List Int)) (a1:Int)  : DenM Tryz.prog 182 [ownL 2 1 yt a0,.int .i64 a1] (.int .i64 ((zp a0 a1).1)) [(ownL 2 1 yt ((zp a0 a1).2)),.any]:=by
 generalize hR:zp a0 a1=r;unfold zp at hR;refine dj (gb:=[true,false]) Tryz.func182 Tryz.ntmps182 Tryz.results182 ?_;intro c hL hc hk;obtain⟨hL0,hL1,_⟩:=hL;have hw0:a0.length<9223372036854775808:=Nat.lt_succ_of_le (ycc hL0).1;clear hL0 hL1;simp only[adEL,adE,adRL,adR,ownL,encL,sv,List.nil_append,List.append_nil,List.cons_append,List.length_cons,List.length_nil,pars,Nat.zero_add,Nat.reduceAdd]at hk ⊢;iterate 2 refine rS ?_
 refine AWP.block ?_;generalize hz1:yd (y3t a0 a1) (a0.length-0) 0 (a1,a0)=z1 at hR;refine AWP.range (y3t a0 a1) (fun i1 s1=>⟨[(0,.ref 0 1 0 s1.2.length),(1,.int .i64 s1.1),(5,.int .i64 (i1:Int))],[.arr 2 1 s1.2.length (fun j=>yt (s1.2.getD j default))]⟩) (fun i1 s1=>s1.2.length=a0.length) (a0.length) 0 (a1,a0) [0] hz1 ot wt sm ?_;clear hz1;intro i1 s1 hi1 hW1 hz1;refine rS ?_;refine AWP.cond rfl (fun hb => ?_) (fun hb => ?_)
 ·have hlt1:i1<a0.length:=ot
  rw[yg hlt1]at hz1;simp only[y3t]at hz1;iterate 3 refine rS ?_
  exact⟨_,[0],hlt1,wt,hz1,sm⟩
 ·obtain rfl:i1=a0.length:=ot
  rw[yh (Nat.le_refl _)]at hz1;subst hz1;dsimp only at hR;refine AWP.exit ?_;refine yb ?_;refine rS ?_;refine AWP.ret ?_;subst hR;exact es
end N182
def D_zp : List AV -> Option (AV × List AV × List Prop)
 | [x0,x1]=>some (.int .i64 ((zp (rdL y5b x0) (rdI x1)).1),[(ownL 2 1 yt ((zp (rdL y5b x0) (rdI x1)).2)),.any],[wO 2 1 yt y5b x0,wI .i64 x1])
 | _=>none
theorem yd7:OkM Tryz.prog 182 D_zp:=by unfold D_zp;exact dm N182.den
def yul (a0:(List Int)) (a1:Int) (i1:Nat) (s1:Int):Except (Int) (Int):=
 (bif ((a0.getD i1 default) != s1)then .error (-1)else .ok (IntKind.wrap .i64 (s1+1)))
def ztb (a0:(List Int)) (a1:Int):Int:=
 (match yd (yul a0 a1) (a0.length-0) 0 a1 with|.error e=>e|.ok s1=>s1)
namespace N184
theorem DD:DOk Tryz.prog (Go.Ab.DD []):=ye _
theorem den (a0:(List Int)) (a1:Int)  : Den Tryz.prog 184 [encL 1 yt a0,.int .i64 a1] (.int .i64 (ztb a0 a1)):=by
 generalize hR:ztb a0 a1=r;unfold ztb at hR;refine di Tryz.func184 Tryz.ntmps184 Tryz.results184 ?_;intro c hL hc hk;obtain⟨hL0,hL1,_⟩:=hL;have hw0:a0.length<9223372036854775808:=Nat.lt_succ_of_le (yj hL0).1;clear hL0 hL1;simp only[pars,Nat.zero_add];iterate 2 refine rS ?_
 refine AWP.block ?_;generalize hz1:yd (yul a0 a1) (a0.length-0) 0 a1=z1 at hR;refine AWP.range (yul a0 a1) (fun i1 s1=>⟨[(0,encL 1 yt a0),(1,.int .i64 s1),(5,.int .i64 (i1:Int))],[]⟩) (fun i1 s1=>True) (a0.length) 0 a1 [] hz1 ot wt sm ?_;clear hz1;intro i1 s1 hi1 hW1 hz1;refine rS ?_;refine AWP.cond rfl (fun hb => ?_) (fun hb => ?_)
 ·have hlt1:i1<a0.length:=ot
  rw[yg hlt1]at hz1;simp only[yul]at hz1;refine rS ?_;refine AWP.cond rfl (fun hb => ?_) (fun hb => ?_)
  ·simp only[hb,cond_true]at hz1
   refine rS ?_;refine AWP.ret ?_;subst hz1;dsimp only at hR;subst hR;exact es
  ·simp only[hb,cond_false]at hz1
   iterate 2 refine rS ?_
   exact⟨_,[],hlt1,wt,hz1,sm⟩
 ·obtain rfl:i1=a0.length:=ot
  rw[yh (Nat.le_refl _)]at hz1;subst hz1;dsimp only at hR;refine AWP.exit ?_;refine yb ?_;refine rS ?_;refine AWP.ret ?_;subst hR;exact es
end N184
def D_ztb : DF
 | [x0,x1]=>some (.int .i64 (ztb (rdL y5b x0) (rdI x1)),false,[wL 1 yt y5b x0,wI .i64 x1])
 | _=>none
theorem y24:OkD Tryz.prog 184 D_ztb:=by unfold D_ztb;exact dk N184.den
def yuf (v:Int):Int:=v
theorem yfk (a:List Int) (k:Int):(zp a k).2.length=a.length:=by
 unfold zp
 obtain⟨t,h1,h2⟩:=yw (b:=y3t a k) (fun _ s=>s.2.length=a.length) (k:=a.length-0) (i:=0) (s:=(k,a)) rfl (by
  intro j u _ _ h
  exact⟨_,rfl,by simpa using h⟩)
 rw[h1];exact h2
theorem ygv (a:List Int) (k:Int):subL (zp a k).2 0 a.length=(zp a k).2:=by
 rw[<- yfk a k];exact y2f _
theorem yf8 (a:List Int) (k:Int) (h0:0<=k) (h1:k+1 * a.length<4611686018427387904):zp a k=(k+1 * a.length,(List.range a.length).map (fun j:Nat=>yuf (k+1 * j))):=by
 unfold zp
 obtain⟨t,q1,q2,q3,q4⟩:=yw (b:=y3t a k) (fun i s=>s.1=k+1 * i/\s.2.length=a.length/\∀ j,j<i->s.2.getD j default=yuf (k+1 * j)) (k:=a.length-0) (i:=0) (s:=(k,a)) ⟨by simp,rfl,by intro j hj;omega⟩ (by
  intro j u _ hj ⟨h2,h3,h4⟩;have w1:∀ m:Int,0<=m->m<4611686018427387904->IntKind.wrap .i64 (m+1)=m+1:=by intro m _ _;rw[IntKind.wrap_i64];omega
  have w0:∀ m:Int,0<=m->m<4611686018427387904->IntKind.wrap .i64 m=m:=by intro m _ _;rw[IntKind.wrap_i64];omega
  refine⟨_,rfl,?_,?_,?_⟩
  ·simp only[h2,IntKind.wrap_i64];omega
  ·simpa using h3
  ·intro q hq
   simp only;rw[yii];by_cases h:q=j
   ·subst h
    rw[if_pos ⟨rfl,by omega⟩,h2];simp only[yuf];all_goals (try rw[Int.mk.injEq])
    all_goals (and_intros<;>first|rfl|trivial|(simp only[IntKind.wrap_i64];omega)|(congr 1;(simp only[IntKind.wrap_i64];omega)))
   ·rw[if_neg (fun hh=>h hh.1)]
    exact h4 q (by omega))
 rw[q1];simp only[Nat.zero_add,Nat.sub_zero]at q2 q4;simp only[q2];congr 1
 apply ygw
 ·simpa using q3
 ·intro i hi
  rw[q4 i (by omega)];simp[List.getD_eq_getElem?_getD]
  rw[List.getElem?_range (by omega)];rfl
theorem zp_k (a:List Int) (k:Int) (h0:0<=k) (h1:k<=1152921504606846976) (hl:a.length<1099511627776):(zp a k).1=k+1 * a.length:=by
 rw[yf8 a k h0 (by omega)]
theorem y23 (a:List Int) (k:Int) (h0:0<=k) (hk:k<=1152921504606846976) (h1:a.length<1099511627776):ztb (zp a k).2 k=(zp a k).1/\¬ (zp a k).1<0:=by
 rw[yf8 a k h0 (by omega)];refine⟨?_,by simp only;omega⟩;simp only;unfold ztb
 obtain⟨t,q1,q2⟩:=yw (b:=yul ((List.range a.length).map (fun j:Nat=>yuf (k+1 * j))) k) (fun i s=>s=k+1 * (i:Int)) (k:=((List.range a.length).map (fun j:Nat=>yuf (k+1 * j))).length-0) (i:=0) (s:=k) (by simp) (by
  intro j u _ hj h2;have hj2:j<a.length:=by simpa using hj
  have hg:((List.range a.length).map (fun j:Nat=>yuf (k+1 * j))).getD j default=yuf (k+1 * j):=by
   simp[List.getD_eq_getElem?_getD,hj2]
  subst h2;refine⟨k+1 * ((j+1:Nat):Int),?_,rfl⟩;have e1:∀ m:Int,0<=m->m<4611686018427387904->(m+9223372036854775808) % 18446744073709551616-9223372036854775808=m:=by intro m _ _;omega
  simp only[yul];simp only[hg];simp only[yuf,IntKind.wrap_i64]
  (repeat rw[e1 _ (by omega) (by omega)])
  simp only[Int.add_assoc,Int.reduceAdd,bne_self_eq_false,cond_false,Except.ok.injEq]
  omega)
 rw[q1];simp only[q2];simp
def yr4 (a0:Int) (s1:Int×List UInt8):Except (Sum ((List UInt8)) (Int×List UInt8)) (Int×List UInt8):=
 (bif decide (0<s1.1)then .ok (IntKind.wrap .i64 (s1.1.tdiv 10),(([IntKind.wrap .u8 (IntKind.wrap .i64 (48+(s1.1.tmod 10)))]:List Int).map fun z=>UInt8.ofNat z.toNat)++s1.2)else .error (.inr (s1.1,s1.2)))
def zy (a0:Int):(List UInt8):=
 (bif decide (a0<=0)then[109,48]else(match y5 (yr4 a0) (((a0).toNat)+1) (a0,[])with|.error (.inl e)=>e|.error (.inr s1)=>[109]++s1.2|.ok _=>default))
namespace N181
theorem DD:DOk Tryz.prog (Go.Ab.DD []):=ye _
theorem den (a0:Int) (hp0:a0<=9223372036854775807):Den Tryz.prog 181 [.int .i64 a0] (.str (zy a0)):=by
 generalize hR:zy a0=r;unfold zy at hR;refine di Tryz.func181 Tryz.ntmps181 Tryz.results181 ?_;intro c hL hc hk;clear hL;simp only[pars,Nat.zero_add];iterate 2 refine rS ?_
 refine AWP.cond rfl (fun hb => ?_) (fun hb => ?_)
 ·replace hR:=ct hR
  refine rS ?_;refine AWP.ret ?_;subst hR;exact es
 ·replace hR:=cf hR
  refine rS ?_;refine AWP.seq ?_;refine AWP.block ?_;generalize hz1:y5 (yr4 a0) (((a0).toNat)+1) (a0,[])=z1 at hR;refine AWP.whileW (yr4 a0) (fun s1=>⟨[(0,.int .i64 s1.1),(3,.str s1.2)],[]⟩) (fun s1=>0<=s1.1/\s1.2.length<=19/\s1.1 * 10 ^ s1.2.length<=a0) (fun s1=>(s1.1).toNat) (((a0).toNat)+1) (a0,[]) [] hz1 m0 (by(refine⟨by have:=of_decide_eq_false hb;simp only;omega,by simp,by simp⟩)) sm ?_;clear hz1;intro s1 k1 hW1 hm1 hz1;simp only[yr4]at hz1;refine rS ?_;refine AWP.cond rfl (fun hb => ?_) (fun hb => ?_)
  ·simp only[hb,cond_true]at hz1
   iterate 2 refine rS ?_
   exact⟨_,[],by(exact Nat.lt_of_lt_of_le (digd hW1 hb hp0) (Nat.le_of_lt_succ hm1)),by(exact digw rfl hW1 hb hp0),hz1,sm⟩
  ·simp only[hb,cond_false]at hz1
   refine AWP.exit ?_;refine yb ?_;subst hz1;dsimp only at hR;refine rS ?_;refine AWP.ret ?_;subst hR;exact es
end N181
def D_zy : DF
 | [x0]=>some (.str (zy (rdI x0)),false,[wI .i64 x0,(rdI x0)<=9223372036854775807])
 | _=>none
theorem ysn:OkD Tryz.prog 181 D_zy:=by unfold D_zy;exact dk N181.den
def yjk (a0:(List Sector)) (a1:Int) (i1:Nat) (s1:Int×List Sector):Except (Int×(List Sector)) (Int×List Sector):=
 .ok (IntKind.wrap .i64 ((IntKind.wrap .i64 ((IntKind.wrap .i64 (s1.1+1))+1))+1),s1.2.set i1 ({ From:=s1.1,To:=IntKind.wrap .i64 (s1.1+1),Color:=(zy (IntKind.wrap .i64 ((IntKind.wrap .i64 (s1.1+1))+1))):Sector }))
def zhb (a0:(List Sector)) (a1:Int):Int×(List Sector):=
 (match yd (yjk a0 a1) (a0.length-0) 0 (a1,a0)with|.error e=>e|.ok s1=>(s1.1,s1.2))
namespace N183
theorem DD:DOk Tryz.prog (Go.Ab.DD [(181,dP D_zy)]):=ya ysn.e <| ye _
theorem dn:type_of% (@D_zy.eq_1):=by and_intros<;>intros<;>rfl
theorem den (a0:(List Sector)) (a1:Int) (hp0:a1<=9223372036854775807):DenM Tryz.prog 183 [ownL 135 3 ym a0,.int .i64 a1] (.int .i64 ((zhb a0 a1).1)) [(ownL 135 3 ym ((zhb a0 a1).2)),.any]:=by
 generalize hR:zhb a0 a1=r;unfold zhb at hR;refine dj (gb:=[true,false]) Tryz.func183 Tryz.ntmps183 Tryz.results183 ?_;intro c hL hc hk;obtain⟨hL0,hL1,_⟩:=hL;have hw0:a0.length<9223372036854775808:=Nat.lt_succ_of_le (ycc hL0).1;have hw1:∀ v∈a0,bwSector v:=fun v hv=>yx v ((ycc hL0).2 v hv)
 clear hL0 hL1;simp only[adEL,adE,adRL,adR,ownL,encL,sv,List.nil_append,List.append_nil,List.cons_append,List.length_cons,List.length_nil,pars,Nat.zero_add,Nat.reduceAdd]at hk ⊢;iterate 2 refine rS ?_
 refine AWP.block ?_;generalize hz1:yd (yjk a0 a1) (a0.length-0) 0 (a1,a0)=z1 at hR;refine AWP.range (yjk a0 a1) (fun i1 s1=>⟨[(0,.ref 0 3 0 s1.2.length),(1,.int .i64 s1.1),(5,.int .i64 (i1:Int))],[.arr 135 3 s1.2.length (fun j=>ym (s1.2.getD j default))]⟩) (fun i1 s1=>s1.2.length=a0.length/\s1.1<=9223372036854775807) (a0.length) 0 (a1,a0) [0] hz1 ot wt sm ?_;clear hz1;intro i1 s1 hi1 hW1 hz1;refine rS ?_;refine AWP.cond rfl (fun hb => ?_) (fun hb => ?_)
 ·have hlt1:i1<a0.length:=ot
  rw[yg hlt1]at hz1;simp only[yjk]at hz1;iterate 7 refine rS ?_
  exact⟨_,[0],hlt1,by(exact mrg),hz1,sm⟩
 ·obtain rfl:i1=a0.length:=ot
  rw[yh (Nat.le_refl _)]at hz1;subst hz1;dsimp only at hR;refine AWP.exit ?_;refine yb ?_;refine rS ?_;refine AWP.ret ?_;subst hR;exact es
end N183
def D_zhb : List AV -> Option (AV × List AV × List Prop)
 | [x0,x1]=>some (.int .i64 ((zhb (rdL yq x0) (rdI x1)).1),[(ownL 135 3 ym ((zhb (rdL yq x0) (rdI x1)).2)),.any],[wO 135 3 ym yq x0,wI .i64 x1,(rdI x1)<=9223372036854775807])
 | _=>none
theorem y51:OkM Tryz.prog 183 D_zhb:=by unfold D_zhb;exact dm N183.den
theorem y5h (a:List Int) (k:Int) (h:k<=9223372036854775807):(zp a k).1<=9223372036854775807:=by
 unfold zp
 obtain⟨t,h1,h2⟩:=yw (b:=y3t a k) (fun _ s=>s.1<=9223372036854775807) (k:=a.length-0) (i:=0) (s:=(k,a)) h (by
  intro j u _ _ h
  exact⟨_,rfl,ybe _⟩)
 rw[h1];exact h2
theorem y4c (a:List Sector) (k:Int) (h:k<=9223372036854775807):(zhb a k).1<=9223372036854775807:=by
 unfold zhb
 obtain⟨t,h1,h2⟩:=yw (b:=yjk a k) (fun _ s=>s.1<=9223372036854775807) (k:=a.length-0) (i:=0) (s:=(k,a)) h (by
  intro j u _ _ h
  exact⟨_,rfl,ybe _⟩)
 rw[h1];exact h2
theorem y6b (a:List Sector) (k:Int):(zhb a k).2.length=a.length:=by
 unfold zhb
 obtain⟨t,h1,h2⟩:=yw (b:=yjk a k) (fun _ s=>s.2.length=a.length) (k:=a.length-0) (i:=0) (s:=(k,a)) rfl (by
  intro j u _ _ h
  exact⟨_,rfl,by simpa using h⟩)
 rw[h1];exact h2
theorem yrc (a:List Sector) (k:Int):subL (zhb a k).2 0 a.length=(zhb a k).2:=by
 rw[<- y6b a k];exact y2f _
def ycl (a0:(List Sector)) (a1:Int) (i1:Nat) (s1:Int):Except (Int) (Int):=
 (bif (((a0.getD i1 default).From) != s1)then .error (-1)else(bif (((a0.getD i1 default).To) != (IntKind.wrap .i64 (s1+1)))then .error (-1)else(bif (((a0.getD i1 default).Color) != (zy (IntKind.wrap .i64 ((IntKind.wrap .i64 (s1+1))+1))))then .error (-1)else .ok (IntKind.wrap .i64 ((IntKind.wrap .i64 ((IntKind.wrap .i64 (s1+1))+1))+1)))))
def ztc (a0:(List Sector)) (a1:Int):Int:=
 (match yd (ycl a0 a1) (a0.length-0) 0 a1 with|.error e=>e|.ok s1=>s1)
namespace N185
theorem DD:DOk Tryz.prog (Go.Ab.DD [(181,dP D_zy)]):=ya ysn.e <| ye _
theorem dn:type_of% (@D_zy.eq_1):=by and_intros<;>intros<;>rfl
theorem den (a0:(List Sector)) (a1:Int) (hp0:a1<=9223372036854775807):Den Tryz.prog 185 [encL 3 ym a0,.int .i64 a1] (.int .i64 (ztc a0 a1)):=by
 generalize hR:ztc a0 a1=r;unfold ztc at hR;refine di Tryz.func185 Tryz.ntmps185 Tryz.results185 ?_;intro c hL hc hk;obtain⟨hL0,hL1,_⟩:=hL;have hw0:a0.length<9223372036854775808:=Nat.lt_succ_of_le (yj hL0).1;have hw1:∀ v∈a0,bwSector v:=fun v hv=>yx v ((yj hL0).2 v hv)
 clear hL0 hL1;simp only[pars,Nat.zero_add];iterate 2 refine rS ?_
 refine AWP.block ?_;generalize hz1:yd (ycl a0 a1) (a0.length-0) 0 a1=z1 at hR;refine AWP.range (ycl a0 a1) (fun i1 s1=>⟨[(0,encL 3 ym a0),(1,.int .i64 s1),(5,.int .i64 (i1:Int))],[]⟩) (fun i1 s1=>s1<=9223372036854775807) (a0.length) 0 a1 [] hz1 ot wt sm ?_;clear hz1;intro i1 s1 hi1 hW1 hz1;refine rS ?_;refine AWP.cond rfl (fun hb => ?_) (fun hb => ?_)
 ·have hlt1:i1<a0.length:=ot
  rw[yg hlt1]at hz1;simp only[ycl]at hz1;refine rS ?_;refine AWP.cond rfl (fun hb => ?_) (fun hb => ?_)
  ·simp only[hb,cond_true]at hz1
   refine rS ?_;refine AWP.ret ?_;subst hz1;dsimp only at hR;subst hR;exact es
  ·simp only[hb,cond_false]at hz1
   iterate 2 refine rS ?_
   refine AWP.cond rfl (fun hb => ?_) (fun hb => ?_)
   ·simp only[hb,cond_true]at hz1
    refine rS ?_;refine AWP.ret ?_;subst hz1;dsimp only at hR;subst hR;exact es
   ·simp only[hb,cond_false]at hz1
    refine rS ?_;refine rD 7 ?_;refine AWP.cond rfl (fun hb => ?_) (fun hb => ?_)
    ·simp only[hb,cond_true]at hz1
     refine rS ?_;refine AWP.ret ?_;subst hz1;dsimp only at hR;subst hR;exact es
    ·simp only[hb,cond_false]at hz1
     iterate 2 refine rS ?_
     exact⟨_,[],hlt1,by(exact mrg),hz1,sm⟩
 ·obtain rfl:i1=a0.length:=ot
  rw[yh (Nat.le_refl _)]at hz1;subst hz1;dsimp only at hR;refine AWP.exit ?_;refine yb ?_;refine rS ?_;refine AWP.ret ?_;subst hR;exact es
end N185
def D_ztc : DF
 | [x0,x1]=>some (.int .i64 (ztc (rdL yq x0) (rdI x1)),false,[wL 3 ym yq x0,wI .i64 x1,(rdI x1)<=9223372036854775807])
 | _=>none
theorem yc2:OkD Tryz.prog 185 D_ztc:=by unfold D_ztc;exact dk N185.den
theorem ymm {ρ σ : Type} {b : Nat -> σ -> Except ρ σ} (P : σ -> Prop) (Q : ρ -> Prop) (h : ∀ j u, P u -> (∀ e, b j u = .error e -> Q e) /\ (∀ v, b j u = .ok v -> P v)) : ∀ (k i : Nat) (s : σ), P s -> (∀ e, yd b k i s = .error e -> Q e) /\ (∀ v, yd b k i s = .ok v -> P v)
 | 0,i,s,hs=>⟨fun e he=>by simp[yd]at he,fun v hv=>by simp only[yd,Except.ok.injEq]at hv;subst hv;exact hs⟩
 | k+1,i,s,hs=>by
  have h0:=h i s hs;simp only[yd]
  cases hb:b i s with
  | error r=>exact⟨fun e he=>by cases he;exact h0.1 _ hb,fun v hv=>by cases hv⟩
  | ok t=>exact ymm P Q h k (i+1) t (h0.2 _ hb)
theorem yc0 {b:Nat->Int->Except Int Int} (h:∀ j u,u<=9223372036854775807->(∀ e,b j u=.error e->e<=9223372036854775807)/\(∀ v,b j u=.ok v->v<=9223372036854775807)) (k i:Nat) (s:Int) (hs:s<=9223372036854775807) :
  (match yd b k i s with|.error e=>e|.ok v=>v)<=9223372036854775807:=by
 have:=ymm (fun x=>x<=9223372036854775807) (fun x=>x<=9223372036854775807) h k i s hs
 cases hl:yd b k i s with
 | error e=>exact this.1 _ hl
 | ok v=>exact this.2 _ hl
theorem yso (a:List Int) (k:Int) (h:k<=9223372036854775807):ztb a k<=9223372036854775807:=by
 unfold ztb;refine yc0 (fun j u hu => ?_) _ _ _ h;simp only[yul,Bool.cond_eq_ite]
 (repeat' split)<;>refine⟨fun e he => ?_,fun v hv => ?_⟩<;>first|(cases he<;>first|exact ybe _|decide)|(cases hv<;>first|exact ybe _|decide)
theorem yhm (a:List Sector) (k:Int) (h:k<=9223372036854775807):ztc a k<=9223372036854775807:=by
 unfold ztc;refine yc0 (fun j u hu => ?_) _ _ _ h;simp only[ycl,Bool.cond_eq_ite]
 (repeat' split)<;>refine⟨fun e he => ?_,fun v hv => ?_⟩<;>first|(cases he<;>first|exact ybe _|decide)|(cases hv<;>first|exact ybe _|decide)
theorem wr1 {k:Int} (h0:0<=k) (h1:k<4611686018427387904):IntKind.wrap .i64 (k+1)=k+1:=by rw[IntKind.wrap_i64];omega
def yvb (x:Sector) (k:Int):Int×Sector:=
 (IntKind.wrap .i64 ((IntKind.wrap .i64 ((IntKind.wrap .i64 (k+1))+1))+1),{ From:=k,To:=IntKind.wrap .i64 (k+1),Color:=(zy (IntKind.wrap .i64 ((IntKind.wrap .i64 (k+1))+1))):Sector })
theorem ycj (x:Sector) (k:Int) (h0:0<=k) (h1:k<=2305843009213693952):(yvb x k).1=k+3:=by
 unfold yvb;simp(disch:=omega) only[wr1]
 omega
theorem ylh (a:List Sector) (k:Int):zhb a k=yyc yvb a k:=by
 unfold zhb;have:=y7i yvb (yjk a k) (fun i s=>rfl) a [] k;simp only[List.length_nil,List.nil_append,Nat.sub_zero]at this ⊢;rw[this]
theorem yjv : ∀ (a : List Sector) (k : Int), 0 <= k -> k + 3 * a.length <= 2305843009213693952 -> (yyc yvb a k).1 = k + 3 * a.length
 | [],k,_,_=>by simp[yyc]
 | x::a,k,h0,h1=>by
  simp only[List.length_cons]at h1 ⊢;simp only[yyc];have hk:=ycj x k h0 (by omega);rw[yjv a _ (by omega) (by omega),hk];omega
theorem y4e (a:List Sector) (k:Int) (h0:0<=k) (h1:k<=1152921504606846976) (hl:a.length<=1099511627776):(zhb a k).1=k+3 * a.length:=by
 rw[ylh,yjv a k h0 (by omega)]
theorem ywj (a:List Sector) (k:Int) (h0:0<=k) (h1:k<=1152921504606846976) (hl:a.length<=1099511627776):ztc (zhb a k).2 k=(zhb a k).1/\¬ (zhb a k).1<0:=by
 refine⟨?_,by rw[y4e a k h0 h1 hl];omega⟩;rw[ylh];unfold ztc;rw[ypl,Nat.sub_zero]
 rw[y3i yvb (ycl (yyc yvb a k).2 k) (fun _=>True) 3 2305843009213693952 (by omega) (fun x k _ g0 g1=>by rw[ycj x k g0 g1];omega) a 0 k (fun _ _=>trivial) h0 (by omega) (fun j x s _ g0 g1 g2=>by
  have e:(yyc yvb a k).2.getD (0+j) default=(yvb x s).2:=by rw[Nat.zero_add,List.getD_eq_getElem?_getD,g2];rfl
  simp only[ycl,e]
  simp only[yvb,bne_self_eq_false,cond_false])]
theorem yf9 (w:List UInt8) (hw:w.length<=1048576):bdMark (zsc w).1:=by
 cases e:(zsc w).2 with
 | true=>
  have h:=yni (m:=(zsc w).1) (ye6.r2 w hw e).1;exact⟨Nat.lt_of_le_of_lt h.2.2.1 (by decide),Nat.lt_of_le_of_lt h.2.2.2.1 (by decide),Nat.lt_of_le_of_lt h.2.2.2.2 (by decide)⟩
 | false=>rw[ye6.r3 w hw e];decide
theorem yq8 {l:List Sector} (h:zu l=true):l.length<1099511627776/\∀ v∈l,bdSector v:=by
 have hr:=y7g h;refine⟨Nat.lt_of_le_of_lt hr.1 (by decide),fun v hv => ?_⟩;obtain⟨i,hi,e⟩:=List.getElem_of_mem hv;have h9:=(hr.2 i).2.2.2.2;rw[List.getD_eq_getElem?_getD,List.getElem?_eq_getElem hi,Option.getD_some,e]at h9;exact Nat.lt_of_le_of_lt h9 (by decide)
theorem ya9 (w:List UInt8) (hw:w.length<=1048576):(zmb w).1.length<1099511627776/\∀ v∈(zmb w).1,bdSector v:=by
 cases e:(zmb w).2 with
 | true=>exact yq8 (yp7.r2 w hw e).1
 | false=>rw[yp7.r3 w hw e];exact⟨by decide,by simp⟩
theorem y98 {c:Character} (h:zz c=true):bdCharacter c:=by
 have hf:=y9b c h;have hg:=(yad c h).1;have hc:=yjn h
 have hl:c.Letter.length<=1:=by
  by_cases h8:c.Kind=8
  ·rw[(yom c hf h8).2.1];exact Nat.le_refl _
  ·by_cases hL:c.Letter=[]
   ·rw[hL];simp
   ·rw[(yly c hf h8 hL).1];simp
 exact⟨Nat.lt_of_le_of_lt hg (by decide),Nat.lt_of_le_of_lt hl (by decide),Nat.lt_of_le_of_lt hc (by decide)⟩
theorem yp8 (w:List UInt8):bdCharacter (zad w).1:=by
 rcases yuh w with h|⟨c,h1,_,h3⟩
 ·rw[h];decide
 ·rw[h3];exact y98 h1
def zcf (a0:(List UInt8)):(Aid×Bool):=
 (bif (((zb a0 [47]).length:Int) != 8)then({ Number:=0,Name:=[],At:={ X:=0,Y:=0:Point },Height:=0,Mark:={ Kind:=0,Colors:=[],Shape:=[],Topmark:=[]:Mark },Light:={ Kind:=0,Group:=[],Letter:=[],Colors:=[],Period:=0:Character },Sectors:=[],Intensity:=0:Aid },false)else(bif (((zb a0 [47]).getD 5 default) == [45])then(bif ((!(((zk ((zb a0 [47]).getD 0 default)).2) == true && (((zee ((zb a0 [47]).getD 2 default)).2) == true && (((zk ((zb a0 [47]).getD 3 default)).2) == true && (((zsc ((zb a0 [47]).getD 4 default)).2) == true && (true == true && (((zmb ((zb a0 [47]).getD 6 default)).2) == true && ((zk ((zb a0 [47]).getD 7 default)).2) == true))))))) || ((zbf ({ Number:=(zk ((zb a0 [47]).getD 0 default)).1,Name:=((zb a0 [47]).getD 1 default),At:=(zee ((zb a0 [47]).getD 2 default)).1,Height:=(zk ((zb a0 [47]).getD 3 default)).1,Mark:=(zsc ((zb a0 [47]).getD 4 default)).1,Light:=(zad ((zb a0 [47]).getD 5 default)).1,Sectors:=(zmb ((zb a0 [47]).getD 6 default)).1,Intensity:=(zk ((zb a0 [47]).getD 7 default)).1:Aid })) != a0))then({ Number:=0,Name:=[],At:={ X:=0,Y:=0:Point },Height:=0,Mark:={ Kind:=0,Colors:=[],Shape:=[],Topmark:=[]:Mark },Light:={ Kind:=0,Group:=[],Letter:=[],Colors:=[],Period:=0:Character },Sectors:=[],Intensity:=0:Aid },false)else({ Number:=(zk ((zb a0 [47]).getD 0 default)).1,Name:=((zb a0 [47]).getD 1 default),At:=(zee ((zb a0 [47]).getD 2 default)).1,Height:=(zk ((zb a0 [47]).getD 3 default)).1,Mark:=(zsc ((zb a0 [47]).getD 4 default)).1,Light:=(zad ((zb a0 [47]).getD 5 default)).1,Sectors:=(zmb ((zb a0 [47]).getD 6 default)).1,Intensity:=(zk ((zb a0 [47]).getD 7 default)).1:Aid },true))else(bif ((!(((zk ((zb a0 [47]).getD 0 default)).2) == true && (((zee ((zb a0 [47]).getD 2 default)).2) == true && (((zk ((zb a0 [47]).getD 3 default)).2) == true && (((zsc ((zb a0 [47]).getD 4 default)).2) == true && (((zad ((zb a0 [47]).getD 5 default)).2) == true && (((zmb ((zb a0 [47]).getD 6 default)).2) == true && ((zk ((zb a0 [47]).getD 7 default)).2) == true))))))) || ((zbf ({ Number:=(zk ((zb a0 [47]).getD 0 default)).1,Name:=((zb a0 [47]).getD 1 default),At:=(zee ((zb a0 [47]).getD 2 default)).1,Height:=(zk ((zb a0 [47]).getD 3 default)).1,Mark:=(zsc ((zb a0 [47]).getD 4 default)).1,Light:=(zad ((zb a0 [47]).getD 5 default)).1,Sectors:=(zmb ((zb a0 [47]).getD 6 default)).1,Intensity:=(zk ((zb a0 [47]).getD 7 default)).1:Aid })) != a0))then({ Number:=0,Name:=[],At:={ X:=0,Y:=0:Point },Height:=0,Mark:={ Kind:=0,Colors:=[],Shape:=[],Topmark:=[]:Mark },Light:={ Kind:=0,Group:=[],Letter:=[],Colors:=[],Period:=0:Character },Sectors:=[],Intensity:=0:Aid },false)else({ Number:=(zk ((zb a0 [47]).getD 0 default)).1,Name:=((zb a0 [47]).getD 1 default),At:=(zee ((zb a0 [47]).getD 2 default)).1,Height:=(zk ((zb a0 [47]).getD 3 default)).1,Mark:=(zsc ((zb a0 [47]).getD 4 default)).1,Light:=(zad ((zb a0 [47]).getD 5 default)).1,Sectors:=(zmb ((zb a0 [47]).getD 6 default)).1,Intensity:=(zk ((zb a0 [47]).getD 7 default)).1:Aid },true))))
namespace N28
theorem DD:DOk Tryz.prog (Go.Ab.DD [(21,dP D_zbf),(80,dP D_zb),(81,dP D_zk),(82,dP D_zee),(83,dP D_zsc),(84,dP D_zad),(85,dP D_zmb)]):=ya yj3.e <| ya yri.e <| ya yti.e <| ya y43.e <| ya ys1.e <| ya yi4.e <| ya y73.e <| ye _
theorem dn:type_of% (And.intro @D_zbf.eq_1 <| And.intro @D_zb.eq_1 <| And.intro @D_zk.eq_1 <| And.intro @D_zee.eq_1 <| And.intro @D_zsc.eq_1 <| And.intro @D_zad.eq_1 <| @D_zmb.eq_1):=by and_intros<;>intros<;>rfl
set_option maxHeartbeats 4000000 in
set_option maxRecDepth 20000 in
theorem den (a0:(List UInt8)) (hb0:a0.length<1099511627776) (hp0:a0.length<=1048576):Den Tryz.prog 28 [.str a0] (.tup [.agg (ybi ((zcf a0).1)),.bool ((zcf a0).2)]):=by
 generalize hR:zcf a0=r;unfold zcf at hR;refine di Tryz.func28 Tryz.ntmps28 Tryz.results28 ?_;intro c hL hc hk;obtain⟨hL0,_⟩:=hL;have hw0:a0.length<9223372036854775808:=Nat.lt_succ_of_le hL0;clear hL0;simp only[pars,Nat.zero_add];have e1:=fun i=>yoo a0 47 i
 have s0_:=e1 0;have s1_:=e1 1;have s2_:=e1 2;have s3_:=e1 3;have s4_:=e1 4;have s5_:=e1 5;have s6_:=e1 6;have s7_:=e1 7;have b4:=yf9 ((zb a0 [47]).getD 4 default) (by omega);have b5:=yp8 ((zb a0 [47]).getD 5 default);have b6:=ya9 ((zb a0 [47]).getD 6 default) (by omega);have b61:=b6.1;have b62:=b6.2;iterate 3 refine rS ?_
 refine AWP.cond rfl (fun hb => ?_) (fun hb => ?_)
 ·replace hR:=ct hR
  refine rS ?_;refine AWP.ret ?_;subst hR;exact es
 ·replace hR:=cf hR
  iterate 10 refine rS ?_
  refine AWP.cond rfl (fun hb => ?_) (fun hb => ?_)
  ·replace hR:=ct hR
   iterate 2 refine rS ?_
   refine AWP.cond rfl (fun hb => ?_) (fun hb => ?_)
   ·replace hR:=ct hR
    refine rS ?_;refine AWP.ret ?_;subst hR;exact es
   ·replace hR:=cf hR
    refine rS ?_;refine AWP.ret ?_;subst hR;exact es
  ·replace hR:=cf hR
   refine rS ?_;refine AWP.cond rfl (fun hb => ?_) (fun hb => ?_)
   ·replace hR:=ct hR
    refine rS ?_;refine AWP.ret ?_;subst hR;exact es
   ·replace hR:=cf hR
    refine rS ?_;refine AWP.ret ?_;subst hR;exact es
end N28
def D_zcf : DF
 | [x0]=>some (.tup [.agg (ybi ((zcf (rdS x0)).1)),.bool ((zcf (rdS x0)).2)],false,[wS x0,(rdS x0).length<1099511627776,(rdS x0).length<=1048576])
 | _=>none
theorem y90:OkD Tryz.prog 28 D_zcf:=by unfold D_zcf;exact dk N28.den
theorem yl5 (w:List UInt8) (hw:w.length<=1048576):bdMark (zkc w).1:=by rw[<- ysq w hw];exact yf9 w hw
theorem ys5 (w:List UInt8) (hw:w.length<=1048576):(zdb w).1.length<1099511627776/\∀ v∈(zdb w).1,bdSector v:=by rw[<- ybq w hw];exact ya9 w hw
theorem yz5 (w:List UInt8) (hw:w.length<=1048576):bdCharacter (zgd w).1:=by rw[<- ynt w hw];exact yp8 w
def zbd (a0:(List UInt8)):(Aid×Bool):=
 (bif (((za a0 47).length:Int) != 8)then({ Number:=0,Name:=[],At:={ X:=0,Y:=0:Point },Height:=0,Mark:={ Kind:=0,Colors:=[],Shape:=[],Topmark:=[]:Mark },Light:={ Kind:=0,Group:=[],Letter:=[],Colors:=[],Period:=0:Character },Sectors:=[],Intensity:=0:Aid },false)else(bif ((((((!((zf ((za a0 47).getD 0 default)).2)) || (!((zwb ((za a0 47).getD 2 default)).2))) || (!((zf ((za a0 47).getD 3 default)).2))) || (!((zkc ((za a0 47).getD 4 default)).2))) || (!((zdb ((za a0 47).getD 6 default)).2))) || (!((zf ((za a0 47).getD 7 default)).2)))then({ Number:=0,Name:=[],At:={ X:=0,Y:=0:Point },Height:=0,Mark:={ Kind:=0,Colors:=[],Shape:=[],Topmark:=[]:Mark },Light:={ Kind:=0,Group:=[],Letter:=[],Colors:=[],Period:=0:Character },Sectors:=[],Intensity:=0:Aid },false)else(bif (((za a0 47).getD 5 default) != [45])then(bif (!((zgd ((za a0 47).getD 5 default)).2))then({ Number:=0,Name:=[],At:={ X:=0,Y:=0:Point },Height:=0,Mark:={ Kind:=0,Colors:=[],Shape:=[],Topmark:=[]:Mark },Light:={ Kind:=0,Group:=[],Letter:=[],Colors:=[],Period:=0:Character },Sectors:=[],Intensity:=0:Aid },false)else(bif (!(zjc ({ Number:=(zf ((za a0 47).getD 0 default)).1,Name:=((za a0 47).getD 1 default),At:=(zwb ((za a0 47).getD 2 default)).1,Height:=(zf ((za a0 47).getD 3 default)).1,Mark:=(zkc ((za a0 47).getD 4 default)).1,Light:=(zgd ((za a0 47).getD 5 default)).1,Sectors:=(zdb ((za a0 47).getD 6 default)).1,Intensity:=(zf ((za a0 47).getD 7 default)).1:Aid })))then({ Number:=0,Name:=[],At:={ X:=0,Y:=0:Point },Height:=0,Mark:={ Kind:=0,Colors:=[],Shape:=[],Topmark:=[]:Mark },Light:={ Kind:=0,Group:=[],Letter:=[],Colors:=[],Period:=0:Character },Sectors:=[],Intensity:=0:Aid },false)else({ Number:=(zf ((za a0 47).getD 0 default)).1,Name:=((za a0 47).getD 1 default),At:=(zwb ((za a0 47).getD 2 default)).1,Height:=(zf ((za a0 47).getD 3 default)).1,Mark:=(zkc ((za a0 47).getD 4 default)).1,Light:=(zgd ((za a0 47).getD 5 default)).1,Sectors:=(zdb ((za a0 47).getD 6 default)).1,Intensity:=(zf ((za a0 47).getD 7 default)).1:Aid },true)))else(bif (!(zjc ({ Number:=(zf ((za a0 47).getD 0 default)).1,Name:=((za a0 47).getD 1 default),At:=(zwb ((za a0 47).getD 2 default)).1,Height:=(zf ((za a0 47).getD 3 default)).1,Mark:=(zkc ((za a0 47).getD 4 default)).1,Light:={ Kind:=0,Group:=[],Letter:=[],Colors:=[],Period:=0:Character },Sectors:=(zdb ((za a0 47).getD 6 default)).1,Intensity:=(zf ((za a0 47).getD 7 default)).1:Aid })))then({ Number:=0,Name:=[],At:={ X:=0,Y:=0:Point },Height:=0,Mark:={ Kind:=0,Colors:=[],Shape:=[],Topmark:=[]:Mark },Light:={ Kind:=0,Group:=[],Letter:=[],Colors:=[],Period:=0:Character },Sectors:=[],Intensity:=0:Aid },false)else({ Number:=(zf ((za a0 47).getD 0 default)).1,Name:=((za a0 47).getD 1 default),At:=(zwb ((za a0 47).getD 2 default)).1,Height:=(zf ((za a0 47).getD 3 default)).1,Mark:=(zkc ((za a0 47).getD 4 default)).1,Light:={ Kind:=0,Group:=[],Letter:=[],Colors:=[],Period:=0:Character },Sectors:=(zdb ((za a0 47).getD 6 default)).1,Intensity:=(zf ((za a0 47).getD 7 default)).1:Aid },true)))))
namespace N96
theorem DD:DOk Tryz.prog (Go.Ab.DD [(174,dP D_zwb),(175,dP D_zkc),(176,dP D_zdb),(177,dP D_zgd),(53,dP D_zjc),(90,dP D_za),(93,dP D_zf)]):=ya yu2.e <| ya yz0.e <| ya yk2.e <| ya yh1.e <| ya yk1.e <| ya yeh.e <| ya ycm.e <| ye _
theorem dn:type_of% (And.intro @D_zwb.eq_1 <| And.intro @D_zkc.eq_1 <| And.intro @D_zdb.eq_1 <| And.intro @D_zgd.eq_1 <| And.intro @D_zjc.eq_1 <| And.intro @D_za.eq_1 <| @D_zf.eq_1):=by and_intros<;>intros<;>rfl
theorem gr {p:Prop} (h:p:=by(grind [y3,y4b]);first|done|fail):p:=h
set_option maxHeartbeats 4000000 in
set_option maxRecDepth 20000 in
theorem den (a0:(List UInt8)) (hb0:a0.length<1099511627776) (hp0:a0.length<=1048576):Den Tryz.prog 96 [.str a0] (.tup [.agg (ybi ((zbd a0).1)),.bool ((zbd a0).2)]):=by
 generalize hR:zbd a0=r;unfold zbd at hR;refine di Tryz.func96 Tryz.ntmps96 Tryz.results96 ?_;intro c hL hc hk;obtain⟨hL0,_⟩:=hL;have hw0:a0.length<9223372036854775808:=Nat.lt_succ_of_le hL0;clear hL0;simp only[pars,Nat.zero_add];have e1:=fun i=>yed a0 47 47 rfl (by omega) i
 have s0_:=e1 0;have s1_:=e1 1;have s2_:=e1 2;have s3_:=e1 3;have s4_:=e1 4;have s5_:=e1 5;have s6_:=e1 6;have s7_:=e1 7;have b4:=yl5 ((za a0 47).getD 4 default) (by omega);have b5:=yz5 ((za a0 47).getD 5 default) (by omega);have b6:=ys5 ((za a0 47).getD 6 default) (by omega);have b61:=b6.1;have b62:=b6.2;iterate 3 refine rS ?_
 refine AWP.cond rfl (fun hb => ?_) (fun hb => ?_)
 ·replace hR:=ct hR
  refine rS ?_;refine AWP.ret ?_;subst hR;exact es
 ·replace hR:=cf hR
  iterate 8 refine rS ?_
  refine AWP.cond rfl (fun hb => ?_) (fun hb => ?_)
  ·replace hR:=ct hR
   refine rS ?_;refine AWP.ret ?_;subst hR;exact es
  ·replace hR:=cf hR
   iterate 7 refine rS ?_
   refine AWP.cond rfl (fun hb => ?_) (fun hb => ?_)
   ·replace hR:=ct hR
    iterate 2 refine rS ?_
    refine AWP.cond rfl (fun hb => ?_) (fun hb => ?_)
    ·replace hR:=ct hR
     refine rS ?_;refine AWP.ret ?_;subst hR;exact es
    ·replace hR:=cf hR
     iterate 2 refine rS ?_
     refine AWP.cond rfl (fun hb => ?_) (fun hb => ?_)
     ·replace hR:=ct hR
      refine rS ?_;refine AWP.ret ?_;subst hR;exact es
     ·replace hR:=cf hR
      refine rS ?_;refine AWP.ret ?_;subst hR;exact es
   ·replace hR:=cf hR
    refine rS ?_;refine AWP.cond rfl (fun hb => ?_) (fun hb => ?_)
    ·replace hR:=ct hR
     refine rS ?_;refine AWP.ret ?_;subst hR;exact es
    ·replace hR:=cf hR
     refine rS ?_;refine AWP.ret ?_;subst hR;exact es
end N96
def D_zbd : DF
 | [x0]=>some (.tup [.agg (ybi ((zbd (rdS x0)).1)),.bool ((zbd (rdS x0)).2)],false,[wS x0,(rdS x0).length<1099511627776,(rdS x0).length<=1048576])
 | _=>none
theorem yo1:OkD Tryz.prog 96 D_zbd:=by unfold D_zbd;exact dk N96.den
abbrev zAid:Aid:={ Number:=0,Name:=[],At:={ X:=0,Y:=0:Point },Height:=0,Mark:={ Kind:=0,Colors:=[],Shape:=[],Topmark:=[]:Mark },Light:={ Kind:=0,Group:=[],Letter:=[],Colors:=[],Period:=0:Character },Sectors:=[],Intensity:=0 }
abbrev zChr:Character:={ Kind:=0,Group:=[],Letter:=[],Colors:=[],Period:=0 }
theorem y22:zad [45]=(zChr,false):=by decide +kernel
theorem yq9 {α:Type} (l:List α) (h:l.length=8):∃ a b c d e f g k,l=[a,b,c,d,e,f,g,k]:=by
 match l,h with
 | [a,b,c,d,e,f,g,k],_=>exact⟨a,b,c,d,e,f,g,k,rfl⟩
theorem y31 {s w0 w1 w2 w3 w4 w5 w6 w7 : List UInt8} (hs : s.length <= 1048576) (hw : yf 47 s = [w0, w1, w2, w3, w4, w5, w6, w7]) (c : Character) (f0 : (zf w0).2 = true) (f2 : (zwb w2).2 = true) (f3 : (zf w3).2 = true)
  (f4:(zkc w4).2=true) (f6:(zdb w6).2=true) (f7:(zf w7).2=true) (hc:(w5=[45]/\c=zChr)\/(zsb c=true/\zib c=w5/\c.Colors.length<9223372036854775808)) :
  (zbf ({ Number:=(zf w0).1,Name:=w1,At:=(zwb w2).1,Height:=(zf w3).1,Mark:=(zkc w4).1,Light:=c,Sectors:=(zdb w6).1,Intensity:=(zf w7).1:Aid }) != s) = !(zjc ({ Number:=(zf w0).1,Name:=w1,At:=(zwb w2).1,Height:=(zf w3).1,Mark:=(zkc w4).1,Light:=c,Sectors:=(zdb w6).1,Intensity:=(zf w7).1:Aid })):=by
 have hj:=ypd 47 s;have hl:=(yu 47 s).2;rw[hw]at hj hl;have hx:∀ x∈[w0,w1,w2,w3,w4,w5,w6,w7],x.length<=1048576:=fun x h=>by have:=hl x h;omega
 have q2:=yfs w2 (hx w2 (by simp)) f2;have q4:=yc8.r2 w4 (hx w4 (by simp)) f4;have q6:=yj8.r2 w6 (hx w6 (by simp)) f6
 have hcol:c.Colors.length<9223372036854775808:=by
  rcases hc with⟨_,e⟩|⟨_,_,e⟩
  ·rw[e];decide
  ·exact e
 generalize ha:({ Number:=(zf w0).1,Name:=w1,At:=(zwb w2).1,Height:=(zf w3).1,Mark:=(zkc w4).1,Light:=c,Sectors:=(zdb w6).1,Intensity:=(zf w7).1:Aid })=a;have e1:a.Number=(zf w0).1:=by rw[<- ha]
 have e2:a.Name=w1:=by rw[<- ha]
 have e3:a.At=(zwb w2).1:=by rw[<- ha]
 have e4:a.Height=(zf w3).1:=by rw[<- ha]
 have e5:a.Mark=(zkc w4).1:=by rw[<- ha]
 have e6:a.Light=c:=by rw[<- ha]
 have e7:a.Sectors=(zdb w6).1:=by rw[<- ha]
 have e8:a.Intensity=(zf w7).1:=by rw[<- ha]
 have hsl:a.Sectors.length<9223372036854775807:=by rw[e7];have:=(ybf q6.1).1;omega
 have hcl:a.Light.Colors.length<9223372036854775808:=by rw[e6];exact hcol
 cases h:zjc a with
 | false=>
  have:zbf a=[]:=by unfold zbf;rw[ybh a hcl hsl,h];rfl
  rw[this,Bool.not_false,bne_iff_ne];intro e;rw[<- e]at hw;cases hw
 | true=>
  rw[(yh2 h hcl).1,Bool.not_true,bne_eq_false_iff_eq];obtain⟨n1,n2,_,_,h1,h2,_,_,_,i1,i2⟩:=ywf h;have t1:zj a.Number=w0:=by rw[y0f _ (by omega) (by omega),e1];exact(yjd (hx w0 (by simp)) f0).1.symm
  have t4:zj a.Height=w3:=by rw[y0f _ (by omega) (by omega),e4];exact(yjd (hx w3 (by simp)) f3).1.symm
  have t8:zj a.Intensity=w7:=by rw[y0f _ (by omega) (by omega),e8];exact(yjd (hx w7 (by simp)) f7).1.symm
  have t3:zsg a.At=w2:=by rw[e3];exact q2.2.symm
  have t5:zrg a.Mark=w4:=by
   rw[e5];have hm:zcb (zkc w4).1=true:=q4.1;unfold zrg;rw[hm];exact q4.2.symm
  have t7:zag a.Sectors=w6:=by rw[e7];exact q6.2.symm
  have t6:(zng a=true/\zib a.Light=w5)\/(zng a=false/\[45]=w5):=by
   unfold zng;rw[e6];rcases hc with⟨g1,g2⟩|⟨g1,g2,g3⟩
   ·right;rw[g2];exact⟨rfl,g1.symm⟩
   ·left
    have:=(y1z c g3 g1).2.2.1;exact⟨by rw[bne_iff_ne];omega,g2⟩
  rw[<- hj];unfold zug;rcases t6 with⟨g1,g2⟩|⟨g1,g2⟩
  ·rw[g1,cond_true,t1,e2,t3,t4,t5,g2,t7,t8]
   simp[yxj]
  ·rw[g1,cond_false,t1,e2,t3,t4,t5,g2,t7,t8]
   simp[yxj]
theorem ygx (s:List UInt8) (hs:s.length<=1048576):zcf s=zbd s:=by
 unfold zcf zbd;rw[ykp,yng s 47 47 rfl hs]
 cases hl:(((yf 47 s).length:Int) != 8)with
 | true=>rfl
 | false=>
  have hl:(yf 47 s).length=8:=by have h:=hl;simp at h;omega
  obtain⟨w0,w1,w2,w3,w4,w5,w6,w7,hw⟩:=yq9 _ hl;have hx:=(yu 47 s).2;rw[hw]at hx ⊢;have hx:∀ x∈[w0,w1,w2,w3,w4,w5,w6,w7],x.length<=1048576:=fun x h=>by have:=hx x h;omega
  simp only[cond_false,List.getD_cons_zero,List.getD_cons_succ];rw[yjf w0 (hx w0 (by simp)),yjf w3 (hx w3 (by simp)),yjf w7 (hx w7 (by simp)),yez w2 (hx w2 (by simp)),ysq w4 (hx w4 (by simp)),ybq w6 (hx w6 (by simp)),ynt w5 (hx w5 (by simp))];have core:=fun c f0 f2 f3 f4 f6 f7 hc=>y31 hs hw c f0 f2 f3 f4 f6 f7 hc
  cases f0:(zf w0).2 with
  | false=>simp
  | true=>
  cases f2:(zwb w2).2 with
  | false=>simp
  | true=>
  cases f3:(zf w3).2 with
  | false=>simp
  | true=>
  cases f4:(zkc w4).2 with
  | false=>simp
  | true=>
  cases f6:(zdb w6).2 with
  | false=>simp
  | true=>
  cases f7:(zf w7).2 with
  | false=>simp
  | true=>
  have core:=fun c hc=>core c f0 f2 f3 f4 f6 f7 hc
  by_cases h5:w5=[45]
  ·have hd:zgd w5=(zChr,false):=by rw[<- ynt w5 (hx w5 (by simp)),h5];exact y22
   have:=core zChr (.inl ⟨h5,rfl⟩);rw[hd,show(w5 == [45])=true by simp[h5],show(w5 != [45])=false by simp[h5]];simp only[beq_self_eq_true,Bool.and_true,Bool.not_true,Bool.false_or,Bool.or_self,cond_true,cond_false];rw[this]
  ·rw[show(w5 == [45])=false by simp[h5],show(w5 != [45])=true by simp[h5]]
   rcases yqh w5 with hd|⟨c,g1,g2,⟨i,g3⟩,hd⟩
   ·rw[hd];simp
   ·have hg:c.Colors.length<9223372036854775808:=by
     rw[g3];have:=yhc (yy7 w5 (hx w5 (by simp))) i;omega
    have:=core c (.inr ⟨g1,g2,hg⟩);rw[hd];simp only[beq_self_eq_true,Bool.and_true,Bool.not_true,Bool.false_or,Bool.or_self,cond_true,cond_false];rw[this]
theorem yox (s:List UInt8) (hs:s.length<=1048576):bdAid (zbd s).1:=by
 have e:=fun i=>yed s 47 47 rfl hs i
 have hz:bdAid zAid:=by decide
 have key:∀ c:Character,bdCharacter c->bdAid ({ Number:=(zf ((za s 47).getD 0 default)).1,Name:=((za s 47).getD 1 default),At:=(zwb ((za s 47).getD 2 default)).1,Height:=(zf ((za s 47).getD 3 default)).1,Mark:=(zkc ((za s 47).getD 4 default)).1,Light:=c,Sectors:=(zdb ((za s 47).getD 6 default)).1,Intensity:=(zf ((za s 47).getD 7 default)).1:Aid }):=fun c hc=>
  ⟨Nat.lt_of_le_of_lt (Nat.le_trans (e 1) hs) (by decide),yl5 _ (Nat.le_trans (e 4) hs),hc,ys5 _ (Nat.le_trans (e 6) hs)⟩
 unfold zbd;simp only[Bool.cond_eq_ite]
 (repeat' split)<;>first|exact hz|exact key _ (yz5 _ (Nat.le_trans (e 5) hs))|exact key _ (by decide)
theorem fin2 {α:Type} {V:α->Prop} {z:α} (m:α) (c:Bool) (hc:c=false->V m):(bif c then(z,false)else(m,true))=(z,false)\/∃ p,(bif c then(z,false)else(m,true))=(p,true)/\V p:=by
 cases c with
 | true=>exact .inl rfl
 | false=>exact .inr ⟨m,rfl,hc rfl⟩
theorem ybs (s:List UInt8):zbd s=(zAid,false)\/∃ a,zbd s=(a,true)/\zjc a=true:=by
 unfold zbd
 cases(((za s 47).length:Int) != 8)with
 | true=>exact .inl rfl
 | false=>
  rw[cond_false]
  cases((((((!((zf ((za s 47).getD 0 default)).2)) || (!((zwb ((za s 47).getD 2 default)).2))) || (!((zf ((za s 47).getD 3 default)).2))) || (!((zkc ((za s 47).getD 4 default)).2))) || (!((zdb ((za s 47).getD 6 default)).2))) || (!((zf ((za s 47).getD 7 default)).2)))with
  | true=>exact .inl rfl
  | false=>
   rw[cond_false]
   cases(((za s 47).getD 5 default) != [45])with
   | true=>
    rw[cond_true]
    cases(!((zgd ((za s 47).getD 5 default)).2))with
    | true=>exact .inl rfl
    | false=>rw[cond_false];exact fin2 (V:=fun a=>zjc a=true) _ _ (fun h=>by simpa using h)
   | false=>rw[cond_false];exact fin2 (V:=fun a=>zjc a=true) _ _ (fun h=>by simpa using h)
theorem y96 {a:Aid} (h:zjc a=true):a.Light.Group.length<=4/\a.Sectors.length<=12:=by
 refine⟨?_,(ybf (ywf h).2.2.2.2.2.2.2.2.1).1⟩
 cases ht:zng a with
 | true=>
  have hk:=(ywf h).2.2.2.2.2.2.2.1 ht;unfold zsb at hk
  cases hs:zte a.Light with
  | true=>exact(y4k _ hs).1
  | false=>rw[hs]at hk;cases hk
 | false=>
  unfold zjc at h
  cases hc:(((((!(zi a.Number 1 9999)) || (!(zpc a.Name))) || (!(zic a.At))) || (!(zi a.Height 0 3000))) || (!(zed a.Mark)))with
  | true=>rw[hc]at h;cases h
  | false=>
   rw[hc,cond_false]at h
   cases hp:zrd a.Light with
   | true=>
    unfold zrd at hp;simp only[Bool.and_eq_true,beq_iff_eq]at hp;have:=hp.1.1.1.2;omega
   | false=>
    rw[hp,cond_false]at h
    cases hd:(((!(zsb a.Light)) || (!(zi a.Intensity 1 100000000))) || (!(zu a.Sectors)))with
    | true=>rw[hd]at h;cases h
    | false=>
     simp only[Bool.or_eq_false_iff,Bool.not_eq_false']at hd;have hk:=hd.1.1;unfold zsb at hk
     cases hs:zte a.Light with
     | true=>exact(y4k _ hs).1
     | false=>rw[hs]at hk;cases hk
theorem ypz (s:List UInt8):(zbd s).1.Light.Group.length<=4/\(zbd s).1.Sectors.length<=12:=by
 rcases ybs s with h|⟨a,h,h1⟩
 ·rw[h];exact⟨by simp,by simp⟩
 ·rw[h];exact y96 h1
theorem yvm {ρ1 ρ2 σ τ:Type} {b1:Nat->σ->Except ρ1 σ} {b2:Nat->τ->Except ρ2 τ} (R:Nat->σ->τ->Prop) (E:ρ1->ρ2->Prop) (d:Nat):∀ {k i:Nat} {s:σ} {t:τ},R i s t ->
  (∀ j u v,i<=j->j<i+k->R j u v->(∃ e f,b1 j u=.error e/\b2 (j+d) v=.error f/\E e f)\/∃ u' v',b1 j u=.ok u'/\b2 (j+d) v=.ok v'/\R (j+1) u' v') ->
  (∃ e f,yd b1 k i s=.error e/\yd b2 k (i+d) t=.error f/\E e f)\/∃ u v,yd b1 k i s=.ok u/\yd b2 k (i+d) t=.ok v/\R (i+k) u v
 | 0,i,s,t,h,_=>.inr ⟨s,t,rfl,rfl,h⟩
 | k+1,i,s,t,h,hb=>by
  simp only[yd];rcases hb i s t (Nat.le_refl _) (by omega) h with⟨e,f,h1,h2,h3⟩|⟨u,v,h1,h2,h3⟩
  ·rw[h1,h2];exact .inl ⟨e,f,rfl,rfl,h3⟩
  ·rw[h1,h2]
   have:=yvm R E d (k:=k) (i:=i+1) h3 (fun j u v q1 q2 q3=>hb j u v (by omega) (by omega) q3);rwa [show i+1+k=i+(k+1)by omega,show i+1+d=i+d+1 by omega]at this
theorem yj6 {n:Nat} {b:Bool} (h:(decide ((n:Int)<3) || b)=false):3<=n:=by
 rw[Bool.or_eq_false_iff]at h;have:=of_decide_eq_false h.1;omega
theorem yr9 {n:Nat} {b:Bool} (h:(((n:Int) != 4) || b)=false):n=4:=by
 rw[Bool.or_eq_false_iff,bne_eq_false_iff_eq]at h;have:=h.1;omega
theorem yyz {n:Nat} (h:((n:Int) == 24)=false):n≠24:=by
 rw[beq_eq_false_iff_ne]at h;omega
theorem yi8 {a0:List UInt8} (hp:a0.length<=1048576) (h:3<=(za a0 10).length) (i:Nat):((za a0 10).getD i default).length+1<=a0.length:=by
 rw[show za a0 10=yf 10 a0 from yzj a0 10 (by omega)]at h ⊢;exact y6l 10 a0 (by omega) i
theorem yr5 {a0:List UInt8} (hp:a0.length<=1048576) (h:3<=(za a0 10).length):0<=IntKind.wrap .i64 ((a0.length:Int)-((((za a0 10).getD ((IntKind.wrap .i64 (((za a0 10).length:Int)-2)).toNat) default)++[10]).length:Int)) /\
  IntKind.wrap .i64 ((a0.length:Int)-((((za a0 10).getD ((IntKind.wrap .i64 (((za a0 10).length:Int)-2)).toNat) default)++[10]).length:Int))<=(a0.length:Int):=by
 have:=yi8 hp h ((IntKind.wrap .i64 (((za a0 10).length:Int)-2)).toNat);rw[List.length_append,List.length_singleton];generalize ((za a0 10).getD ((IntKind.wrap .i64 (((za a0 10).length:Int)-2)).toNat) default).length=t at this;rw[IntKind.wrap_i64];omega
theorem y68 {a0:List UInt8} (h:2<=(zb a0 [10]).length) (i:Nat):((zb a0 [10]).getD i default).length+1<=a0.length:=y6l 10 a0 h i
theorem yj5 {a0:List UInt8} (hp:a0.length<=1048576) (h:3<=(zb a0 [10]).length):0<=IntKind.wrap .i64 ((IntKind.wrap .i64 ((a0.length:Int)-(((zb a0 [10]).getD ((IntKind.wrap .i64 (((zb a0 [10]).length:Int)-2)).toNat) default).length:Int)))-1) /\
  IntKind.wrap .i64 ((IntKind.wrap .i64 ((a0.length:Int)-(((zb a0 [10]).getD ((IntKind.wrap .i64 (((zb a0 [10]).length:Int)-2)).toNat) default).length:Int)))-1)<=(a0.length:Int):=by
 have:=y68 (a0:=a0) (by omega) ((IntKind.wrap .i64 (((zb a0 [10]).length:Int)-2)).toNat);generalize ((zb a0 [10]).getD ((IntKind.wrap .i64 (((zb a0 [10]).length:Int)-2)).toNat) default).length=t at this;rw[IntKind.wrap_i64,IntKind.wrap_i64];omega
theorem y88 {n:Nat} {b:Bool} (h:(decide (IntKind.wrap .i64 ((n:Int)-2)<1) || b)=false) (hn:n<=2000000):3<=n:=by
 rw[Bool.or_eq_false_iff]at h;have:=of_decide_eq_false h.1;rw[IntKind.wrap_i64]at this;omega
theorem yv7 (s:List UInt8) : -1000000000000<=zlb s 65535/\zlb s 65535<=1000000000000/\(zj (zlb s 65535)).length<=100000:=by
 have h:=ywv s;have:=y6t (zlb s 65535) (by omega) (by omega);omega
theorem yn0 (l:List UInt8) (k:Int):(zec l k).1.Aids=[]:=by
 unfold zec;cases(((zo l).length:Int) != 4)<;>rfl
end Go.Ab
