/- A part of a proof: walks of functions and lemmas of our own. No conditions. -/
import Derived.Test.YthadgghdkkapaaaGreatDoorMAl
import Derived.Test.YthadgghdkkapaaaGreatDoorMAw
import Derived.Test.YthadgghdkkapaaaGreatDoorMAp
import Derived.Test.YthadgghdkkapaaaGreatDoorMAi
import Derived.Test.YthadgghdkkapaaaGreatDoorMAn
set_option linter.unusedSectionVars false
set_option linter.unusedVariables false
set_option linter.unusedSimpArgs false
set_option maxHeartbeats 1000000
namespace Go.Ab
open Go Go.Proofs
def y2m (a0:(List Sector)) (a1:Int) (i1:Nat) (s1:Int×List Sector):Except (Int×(List Sector)) (Int×List Sector):=
 .ok (IntKind.wrap .i64 ((IntKind.wrap .i64 ((IntKind.wrap .i64 (s1.1+1))+1))+1),s1.2.set i1 ({ From:=s1.1,To:=IntKind.wrap .i64 (s1.1+1),Color:=(zk (IntKind.wrap .i64 ((IntKind.wrap .i64 (s1.1+1))+1))):Sector }))
def zj (a0:(List Sector)) (a1:Int):Int×(List Sector):=
 (match yf (y2m a0 a1) (a0.length-0) 0 (a1,a0)with|.error e=>e|.ok s1=>(s1.1,s1.2))
namespace N84
theorem DD:DOk Tryz.prog (Go.Ab.DD [(83,dP D_zk)]):=ya ydt.e <| yc _
theorem dn:type_of% (@D_zk.eq_1):=by and_intros<;>intros<;>rfl
theorem den (a0:(List Sector)) (a1:Int) (hp0:a1<=9223372036854775807):DenM Tryz.prog 84 [ownL 165 3 eSector a0,.int .i64 a1] (.int .i64 ((zj a0 a1).1)) [(ownL 165 3 eSector ((zj a0 a1).2)),.any]:=by
 generalize hR:zj a0 a1=r;unfold zj at hR;refine dj (gb:=[true,false]) Tryz.func84 Tryz.ntmps84 Tryz.results84 ?_;intro c hL hc hk;obtain⟨hL0,hL1,_⟩:=hL;have hw0:a0.length<9223372036854775808:=Nat.lt_succ_of_le (ydc hL0).1;have hw1:∀ v∈a0,bwSector v:=fun v hv=>yq v ((ydc hL0).2 v hv)
 clear hL0 hL1;simp only[adEL,adE,adRL,adR,ownL,encL,sv,List.nil_append,List.append_nil,List.cons_append,List.length_cons,List.length_nil,pars,Nat.zero_add,Nat.reduceAdd]at hk ⊢;iterate 2 refine rS ?_
 refine AWP.block ?_;generalize hz1:yf (y2m a0 a1) (a0.length-0) 0 (a1,a0)=z1 at hR;refine AWP.range (y2m a0 a1) (fun i1 s1=>⟨[(0,.ref 0 3 0 s1.2.length),(1,.int .i64 s1.1),(5,.int .i64 (i1:Int))],[.arr 165 3 s1.2.length (fun j=>eSector (s1.2.getD j default))]⟩) (fun i1 s1=>s1.2.length=a0.length/\s1.1<=9223372036854775807) (a0.length) 0 (a1,a0) [0] hz1 ot wt sm ?_;clear hz1;intro i1 s1 hi1 hW1 hz1;refine rS ?_;refine AWP.cond rfl (fun hb => ?_) (fun hb => ?_)
 ·have hlt1:i1<a0.length:=ot
  rw[yk hlt1]at hz1;simp only[y2m]at hz1;iterate 7 refine rS ?_
  exact⟨_,[0],hlt1,by(exact mrg),hz1,sm⟩
 ·obtain rfl:i1=a0.length:=ot
  rw[yj (Nat.le_refl _)]at hz1;subst hz1;dsimp only at hR;refine AWP.exit ?_;refine yb ?_;refine rS ?_;refine AWP.ret ?_;subst hR;exact es
end N84
def D_zj : List AV -> Option (AV × List AV × List Prop)
 | [x0,x1]=>some (.int .i64 ((zj (rdL ym x0) (rdI x1)).1),[(ownL 165 3 eSector ((zj (rdL ym x0) (rdI x1)).2)),.any],[wO 165 3 eSector ym x0,wI .i64 x1,(rdI x1)<=9223372036854775807])
 | _=>none
theorem y5x:OkM Tryz.prog 84 D_zj:=by unfold D_zj;exact dm N84.den
theorem ysf (a:List Int) (k:Int) (h:k<=9223372036854775807):(zd a k).1<=9223372036854775807:=by
 unfold zd
 obtain⟨t,h1,h2⟩:=ybb (b:=ydn a k) (fun _ s=>s.1<=9223372036854775807) (k:=a.length-0) (i:=0) (s:=(k,a)) h (by
  intro j u _ _ h
  exact⟨_,rfl,ydg _⟩)
 rw[h1];exact h2
theorem y7c (a:List Sector) (k:Int) (h:k<=9223372036854775807):(zj a k).1<=9223372036854775807:=by
 unfold zj
 obtain⟨t,h1,h2⟩:=ybb (b:=y2m a k) (fun _ s=>s.1<=9223372036854775807) (k:=a.length-0) (i:=0) (s:=(k,a)) h (by
  intro j u _ _ h
  exact⟨_,rfl,ydg _⟩)
 rw[h1];exact h2
theorem yyc (a:List Sector) (k:Int):(zj a k).2.length=a.length:=by
 unfold zj
 obtain⟨t,h1,h2⟩:=ybb (b:=y2m a k) (fun _ s=>s.2.length=a.length) (k:=a.length-0) (i:=0) (s:=(k,a)) rfl (by
  intro j u _ _ h
  exact⟨_,rfl,by simpa using h⟩)
 rw[h1];exact h2
theorem y4d (a:List Sector) (k:Int):subL (zj a k).2 0 a.length=(zj a k).2:=by
 rw[<- yyc a k];exact ybf _
def y9i (a0:(List Int)) (a1:Int) (i1:Nat) (s1:Int):Except (Int) (Int):=
 (bif ((a0.getD i1 default) != s1)then .error (-1)else .ok (IntKind.wrap .i64 (s1+1)))
def zmb (a0:(List Int)) (a1:Int):Int:=
 (match yf (y9i a0 a1) (a0.length-0) 0 a1 with|.error e=>e|.ok s1=>s1)
namespace N31
theorem DD:DOk Tryz.prog (Go.Ab.DD []):=yc _
theorem den (a0:(List Int)) (a1:Int)  : Den Tryz.prog 31 [encL 1 yl a0,.int .i64 a1] (.int .i64 (zmb a0 a1)):=by
 generalize hR:zmb a0 a1=r;unfold zmb at hR;refine di Tryz.func31 Tryz.ntmps31 Tryz.results31 ?_;intro c hL hc hk;obtain⟨hL0,hL1,_⟩:=hL;have hw0:a0.length<9223372036854775808:=Nat.lt_succ_of_le (ye hL0).1;clear hL0 hL1;simp only[pars,Nat.zero_add];iterate 2 refine rS ?_
 refine AWP.block ?_;generalize hz1:yf (y9i a0 a1) (a0.length-0) 0 a1=z1 at hR;refine AWP.range (y9i a0 a1) (fun i1 s1=>⟨[(0,encL 1 yl a0),(1,.int .i64 s1),(5,.int .i64 (i1:Int))],[]⟩) (fun i1 s1=>True) (a0.length) 0 a1 [] hz1 ot wt sm ?_;clear hz1;intro i1 s1 hi1 hW1 hz1;refine rS ?_;refine AWP.cond rfl (fun hb => ?_) (fun hb => ?_)
 ·have hlt1:i1<a0.length:=ot
  rw[yk hlt1]at hz1;simp only[y9i]at hz1;refine rS ?_;refine AWP.cond rfl (fun hb => ?_) (fun hb => ?_)
  ·simp only[hb,cond_true]at hz1
   refine rS ?_;refine AWP.ret ?_;subst hz1;dsimp only at hR;subst hR;exact es
  ·simp only[hb,cond_false]at hz1
   iterate 2 refine rS ?_
   exact⟨_,[],hlt1,wt,hz1,sm⟩
 ·obtain rfl:i1=a0.length:=ot
  rw[yj (Nat.le_refl _)]at hz1;subst hz1;dsimp only at hR;refine AWP.exit ?_;refine yb ?_;refine rS ?_;refine AWP.ret ?_;subst hR;exact es
end N31
def D_zmb : DF
 | [x0,x1]=>some (.int .i64 (zmb (rdL yab x0) (rdI x1)),false,[wL 1 yl yab x0,wI .i64 x1])
 | _=>none
theorem y3w:OkD Tryz.prog 31 D_zmb:=by unfold D_zmb;exact dk N31.den
def y6d (v:Int):Int:=v
theorem ywg (a:List Int) (k:Int):(zd a k).2.length=a.length:=by
 unfold zd
 obtain⟨t,h1,h2⟩:=ybb (b:=ydn a k) (fun _ s=>s.2.length=a.length) (k:=a.length-0) (i:=0) (s:=(k,a)) rfl (by
  intro j u _ _ h
  exact⟨_,rfl,by simpa using h⟩)
 rw[h1];exact h2
theorem yzi (a:List Int) (k:Int):subL (zd a k).2 0 a.length=(zd a k).2:=by
 rw[<- ywg a k];exact ybf _
theorem ypz (a:List Int) (k:Int) (h0:0<=k) (h1:k+1 * a.length<4611686018427387904):zd a k=(k+1 * a.length,(List.range a.length).map (fun j:Nat=>y6d (k+1 * j))):=by
 unfold zd
 obtain⟨t,q1,q2,q3,q4⟩:=ybb (b:=ydn a k) (fun i s=>s.1=k+1 * i/\s.2.length=a.length/\∀ j,j<i->s.2.getD j default=y6d (k+1 * j)) (k:=a.length-0) (i:=0) (s:=(k,a)) ⟨by simp,rfl,by intro j hj;omega⟩ (by
  intro j u _ hj ⟨h2,h3,h4⟩;have w1:∀ m:Int,0<=m->m<4611686018427387904->IntKind.wrap .i64 (m+1)=m+1:=by intro m _ _;rw[IntKind.wrap_i64];omega
  have w0:∀ m:Int,0<=m->m<4611686018427387904->IntKind.wrap .i64 m=m:=by intro m _ _;rw[IntKind.wrap_i64];omega
  refine⟨_,rfl,?_,?_,?_⟩
  ·simp only[h2,IntKind.wrap_i64];omega
  ·simpa using h3
  ·intro q hq
   simp only;rw[y3d];by_cases h:q=j
   ·subst h
    rw[if_pos ⟨rfl,by omega⟩,h2];simp only[y6d];all_goals (try rw[Int.mk.injEq])
    all_goals (and_intros<;>first|rfl|trivial|(simp only[IntKind.wrap_i64];omega)|(congr 1;(simp only[IntKind.wrap_i64];omega)))
   ·rw[if_neg (fun hh=>h hh.1)]
    exact h4 q (by omega))
 rw[q1];simp only[Nat.zero_add,Nat.sub_zero]at q2 q4;simp only[q2];congr 1
 apply y4j
 ·simpa using q3
 ·intro i hi
  rw[q4 i (by omega)];simp[List.getD_eq_getElem?_getD]
  rw[List.getElem?_range (by omega)];rfl
theorem zd_k (a:List Int) (k:Int) (h0:0<=k) (h1:k<=1152921504606846976) (hl:a.length<1099511627776):(zd a k).1=k+1 * a.length:=by
 rw[ypz a k h0 (by omega)]
theorem yyv (a:List Int) (k:Int) (h0:0<=k) (hk:k<=1152921504606846976) (h1:a.length<1099511627776):zmb (zd a k).2 k=(zd a k).1/\¬ (zd a k).1<0:=by
 rw[ypz a k h0 (by omega)];refine⟨?_,by simp only;omega⟩;simp only;unfold zmb
 obtain⟨t,q1,q2⟩:=ybb (b:=y9i ((List.range a.length).map (fun j:Nat=>y6d (k+1 * j))) k) (fun i s=>s=k+1 * (i:Int)) (k:=((List.range a.length).map (fun j:Nat=>y6d (k+1 * j))).length-0) (i:=0) (s:=k) (by simp) (by
  intro j u _ hj h2;have hj2:j<a.length:=by simpa using hj
  have hg:((List.range a.length).map (fun j:Nat=>y6d (k+1 * j))).getD j default=y6d (k+1 * j):=by
   simp[List.getD_eq_getElem?_getD,hj2]
  subst h2;refine⟨k+1 * ((j+1:Nat):Int),?_,rfl⟩;have e1:∀ m:Int,0<=m->m<4611686018427387904->(m+9223372036854775808) % 18446744073709551616-9223372036854775808=m:=by intro m _ _;omega
  simp only[y9i];simp only[hg];simp only[y6d,IntKind.wrap_i64]
  (repeat rw[e1 _ (by omega) (by omega)])
  simp only[Int.add_assoc,Int.reduceAdd,bne_self_eq_false,cond_false,Except.ok.injEq]
  omega)
 rw[q1];simp only[q2];simp
theorem wr1 {k:Int} (h0:0<=k) (h1:k<4611686018427387904):IntKind.wrap .i64 (k+1)=k+1:=by rw[IntKind.wrap_i64];omega
def yjd (x:Sector) (k:Int):Int×Sector:=
 (IntKind.wrap .i64 ((IntKind.wrap .i64 ((IntKind.wrap .i64 (k+1))+1))+1),{ From:=k,To:=IntKind.wrap .i64 (k+1),Color:=(zk (IntKind.wrap .i64 ((IntKind.wrap .i64 (k+1))+1))):Sector })
theorem ydl (x:Sector) (k:Int) (h0:0<=k) (h1:k<=2305843009213693952):(yjd x k).1=k+3:=by
 unfold yjd;simp(disch:=omega) only[wr1]
 omega
theorem y5j (a:List Sector) (k:Int):zj a k=yte yjd a k:=by
 unfold zj;have:=ycg yjd (y2m a k) (fun i s=>rfl) a [] k;simp only[List.length_nil,List.nil_append,Nat.sub_zero]at this ⊢;rw[this]
theorem ygp : ∀ (a : List Sector) (k : Int), 0 <= k -> k + 3 * a.length <= 2305843009213693952 -> (yte yjd a k).1 = k + 3 * a.length
 | [],k,_,_=>by simp[yte]
 | x::a,k,h0,h1=>by
  simp only[List.length_cons]at h1 ⊢;simp only[yte];have hk:=ydl x k h0 (by omega);rw[ygp a _ (by omega) (by omega),hk];omega
theorem yyj (a:List Sector) (k:Int) (h0:0<=k) (h1:k<=1152921504606846976) (hl:a.length<=1099511627776):(zj a k).1=k+3 * a.length:=by
 rw[y5j,ygp a k h0 (by omega)]
def y0h (a0:(List Aid)) (a1:Int) (i1:Nat) (s1:Int×List Aid):Except (Int×(List Aid)) (Int×List Aid):=
 .ok (IntKind.wrap .i64 (((zj ((s1.2.getD i1 default).Sectors) (IntKind.wrap .i64 ((IntKind.wrap .i64 ((IntKind.wrap .i64 (((zd (((s1.2.getD i1 default).Light).Group) (IntKind.wrap .i64 ((IntKind.wrap .i64 ((IntKind.wrap .i64 ((IntKind.wrap .i64 ((IntKind.wrap .i64 ((IntKind.wrap .i64 ((IntKind.wrap .i64 ((IntKind.wrap .i64 ((IntKind.wrap .i64 ((IntKind.wrap .i64 (s1.1+1))+1))+1))+1))+1))+1))+1))+1))+1))+1))).1)+1))+1))+1))).1)+1),s1.2.set i1 ({ Number:=s1.1,Name:=(zk (IntKind.wrap .i64 (s1.1+1))),At:={ X:=IntKind.wrap .i64 ((IntKind.wrap .i64 (s1.1+1))+1),Y:=IntKind.wrap .i64 ((IntKind.wrap .i64 ((IntKind.wrap .i64 (s1.1+1))+1))+1):Point },Height:=IntKind.wrap .i64 ((IntKind.wrap .i64 ((IntKind.wrap .i64 ((IntKind.wrap .i64 (s1.1+1))+1))+1))+1),Mark:={ Kind:=IntKind.wrap .i64 ((IntKind.wrap .i64 ((IntKind.wrap .i64 ((IntKind.wrap .i64 ((IntKind.wrap .i64 (s1.1+1))+1))+1))+1))+1),Colors:=(zk (IntKind.wrap .i64 ((IntKind.wrap .i64 ((IntKind.wrap .i64 ((IntKind.wrap .i64 ((IntKind.wrap .i64 ((IntKind.wrap .i64 (s1.1+1))+1))+1))+1))+1))+1))),Shape:=(zk (IntKind.wrap .i64 ((IntKind.wrap .i64 ((IntKind.wrap .i64 ((IntKind.wrap .i64 ((IntKind.wrap .i64 ((IntKind.wrap .i64 ((IntKind.wrap .i64 (s1.1+1))+1))+1))+1))+1))+1))+1))),Topmark:=(zk (IntKind.wrap .i64 ((IntKind.wrap .i64 ((IntKind.wrap .i64 ((IntKind.wrap .i64 ((IntKind.wrap .i64 ((IntKind.wrap .i64 ((IntKind.wrap .i64 ((IntKind.wrap .i64 (s1.1+1))+1))+1))+1))+1))+1))+1))+1))):Mark },Light:={ Kind:=IntKind.wrap .i64 ((IntKind.wrap .i64 ((IntKind.wrap .i64 ((IntKind.wrap .i64 ((IntKind.wrap .i64 ((IntKind.wrap .i64 ((IntKind.wrap .i64 ((IntKind.wrap .i64 ((IntKind.wrap .i64 (s1.1+1))+1))+1))+1))+1))+1))+1))+1))+1),Group:=(zd (((s1.2.getD i1 default).Light).Group) (IntKind.wrap .i64 ((IntKind.wrap .i64 ((IntKind.wrap .i64 ((IntKind.wrap .i64 ((IntKind.wrap .i64 ((IntKind.wrap .i64 ((IntKind.wrap .i64 ((IntKind.wrap .i64 ((IntKind.wrap .i64 ((IntKind.wrap .i64 (s1.1+1))+1))+1))+1))+1))+1))+1))+1))+1))+1))).2,Letter:=(zk ((zd (((s1.2.getD i1 default).Light).Group) (IntKind.wrap .i64 ((IntKind.wrap .i64 ((IntKind.wrap .i64 ((IntKind.wrap .i64 ((IntKind.wrap .i64 ((IntKind.wrap .i64 ((IntKind.wrap .i64 ((IntKind.wrap .i64 ((IntKind.wrap .i64 ((IntKind.wrap .i64 (s1.1+1))+1))+1))+1))+1))+1))+1))+1))+1))+1))).1)),Colors:=(zk (IntKind.wrap .i64 (((zd (((s1.2.getD i1 default).Light).Group) (IntKind.wrap .i64 ((IntKind.wrap .i64 ((IntKind.wrap .i64 ((IntKind.wrap .i64 ((IntKind.wrap .i64 ((IntKind.wrap .i64 ((IntKind.wrap .i64 ((IntKind.wrap .i64 ((IntKind.wrap .i64 ((IntKind.wrap .i64 (s1.1+1))+1))+1))+1))+1))+1))+1))+1))+1))+1))).1)+1))),Period:=IntKind.wrap .i64 ((IntKind.wrap .i64 (((zd (((s1.2.getD i1 default).Light).Group) (IntKind.wrap .i64 ((IntKind.wrap .i64 ((IntKind.wrap .i64 ((IntKind.wrap .i64 ((IntKind.wrap .i64 ((IntKind.wrap .i64 ((IntKind.wrap .i64 ((IntKind.wrap .i64 ((IntKind.wrap .i64 ((IntKind.wrap .i64 (s1.1+1))+1))+1))+1))+1))+1))+1))+1))+1))+1))).1)+1))+1):Character },Sectors:=(zj ((s1.2.getD i1 default).Sectors) (IntKind.wrap .i64 ((IntKind.wrap .i64 ((IntKind.wrap .i64 (((zd (((s1.2.getD i1 default).Light).Group) (IntKind.wrap .i64 ((IntKind.wrap .i64 ((IntKind.wrap .i64 ((IntKind.wrap .i64 ((IntKind.wrap .i64 ((IntKind.wrap .i64 ((IntKind.wrap .i64 ((IntKind.wrap .i64 ((IntKind.wrap .i64 ((IntKind.wrap .i64 (s1.1+1))+1))+1))+1))+1))+1))+1))+1))+1))+1))).1)+1))+1))+1))).2,Intensity:=((zj ((s1.2.getD i1 default).Sectors) (IntKind.wrap .i64 ((IntKind.wrap .i64 ((IntKind.wrap .i64 (((zd (((s1.2.getD i1 default).Light).Group) (IntKind.wrap .i64 ((IntKind.wrap .i64 ((IntKind.wrap .i64 ((IntKind.wrap .i64 ((IntKind.wrap .i64 ((IntKind.wrap .i64 ((IntKind.wrap .i64 ((IntKind.wrap .i64 ((IntKind.wrap .i64 ((IntKind.wrap .i64 (s1.1+1))+1))+1))+1))+1))+1))+1))+1))+1))+1))).1)+1))+1))+1))).1):Aid }))
def zsb (a0:(List Aid)) (a1:Int):Int×(List Aid):=
 (match yf (y0h a0 a1) (a0.length-0) 0 (a1,a0)with|.error e=>e|.ok s1=>(s1.1,s1.2))
namespace N29
theorem DD:DOk Tryz.prog (Go.Ab.DD [(30,dM [true,false] D_zd),(83,dP D_zk),(84,dM [true,false] D_zj)]):=ya ypr.e <| ya ydt.e <| ya y5x.e <| yc _
theorem dn:type_of% (And.intro @D_zd.eq_1 <| And.intro @D_zk.eq_1 <| And.intro @D_zj.eq_1 <| And.intro @yzi <| @y4d):=And.intro @D_zd.eq_1 <| And.intro @D_zk.eq_1 <| And.intro @D_zj.eq_1 <| And.intro @yzi <| @y4d
theorem ol:type_of% (And.intro @ywg <| @yyc):=And.intro @ywg <| @yyc
theorem gr {p:Prop} (h:p:=by(grind [ywg,y7c]);first|done|fail):p:=h
theorem o1 {p:Prop} (h:p:=by(first|(exact mrg)|(first|exact ysf _ _ (by exact mrg)|exact y7c _ _ (by exact mrg)|exact ysf _ _ (ydg _)|exact y7c _ _ (ydg _)));first|done|fail):p:=h
theorem o2 {p:Prop} (h:p:=by(first|(and_intros<;>first|rfl|decide|(rw[IntKind.wrap_i64];omega)|(simp only[List.length_set];(first|done|fail))|(intro j hj;by_cases hji:j=i1;(focus(subst hji;simp only[y6t hj,Nat.beq_refl,beq_self_eq_true,cond_true,ol];first|(first|done|fail)|rfl|(and_intros<;>rfl)));(simp only[ybt hji,beqF hji,cond_false];first|(first|done|fail)|rfl|(and_intros<;>rfl)))));first|done|fail):p:=h
set_option maxHeartbeats 4000000 in
set_option maxRecDepth 20000 in
theorem den (a0:(List Aid)) (a1:Int) (hp0:a1<=9223372036854775807):DenD Tryz.prog 29 [ownL 45 16 y8f a0,.int .i64 a1] (.int .i64 ((zsb a0 a1).1)) [(ownL 45 16 y8f ((zsb a0 a1).2)),.any]:=by
 generalize hR:zsb a0 a1=r;unfold zsb at hR;refine ybq (gb:=[true,false]) G_ok Tryz.func29 (by kernel_rfl) rfl Tryz.ntmps29 (by rw[Tryz.results29]) (by simp) ?_;intro c hdp hL hc hk;obtain⟨hL0,hL1,_⟩:=hL;have hw0:a0.length<9223372036854775808:=Nat.lt_succ_of_le (ydc hL0).1;have hw1:∀ v∈a0,bwAid v:=fun v hv=>ygt v ((ydc hL0).2 v hv)
 clear hL0 hL1;simp only[adEL,adE,adRL,adR,ownL,encL,sv,List.nil_append,List.append_nil,List.cons_append,List.length_cons,List.length_nil,pars,Nat.zero_add,Nat.reduceAdd]at hk ⊢;iterate 2 refine rS ?_
 refine AWP.block ?_;generalize hz1:yf (y0h a0 a1) (a0.length-0) 0 (a1,a0)=z1 at hR;refine AWP.range (y0h a0 a1) (fun i1 s1=>⟨[(0,.ref 0 16 0 s1.2.length),(1,.int .i64 s1.1),(5,.int .i64 (i1:Int))],[.arr 45 16 s1.2.length (fun j=>y8f (s1.2.getD j default))]⟩) (fun i1 s1=>s1.2.length=a0.length/\s1.1<=9223372036854775807) (a0.length) 0 (a1,a0) [0] hz1 ot wt sm ?_;clear hz1;intro i1 s1 hi1 hW1 hz1;refine rS ?_;refine AWP.cond rfl (fun hb => ?_) (fun hb => ?_)
 ·have hlt1:i1<a0.length:=ot
  rw[yk hlt1]at hz1;simp only[y0h]at hz1;iterate 4 refine rS ?_
  refine AWP.keepT [0,1,5] ?_;simp only[List.map,putL,dropL,Nat.beq_refl,cond_true,ea,absV,absVL,cput,gv,sv,dn,reduceCtorEq,reduceIte,Nat.reduceBEq,Nat.reduceAdd,Nat.reduceEqDiff,Nat.reduceLT,Nat.reduceLeDiff,Nat.reduceMul,Nat.reduceSub,BEq.rfl,beq_self_eq_true,Int.reduceToNat];iterate 5 refine rS ?_
  refine AWP.keepT [0,1,5] ?_;simp only[List.map,putL,dropL,Nat.beq_refl,cond_true,ea,absV,absVL,cput,gv,sv,dn,reduceCtorEq,reduceIte,Nat.reduceBEq,Nat.reduceAdd,Nat.reduceEqDiff,Nat.reduceLT,Nat.reduceLeDiff,Nat.reduceMul,Nat.reduceSub,BEq.rfl,beq_self_eq_true,Int.reduceToNat];iterate 5 refine rS ?_
  refine AWP.keepT [0,1,5] ?_;simp only[List.map,putL,dropL,Nat.beq_refl,cond_true,ea,absV,absVL,cput,gv,sv,dn,reduceCtorEq,reduceIte,Nat.reduceBEq,Nat.reduceAdd,Nat.reduceEqDiff,Nat.reduceLT,Nat.reduceLeDiff,Nat.reduceMul,Nat.reduceSub,BEq.rfl,beq_self_eq_true,Int.reduceToNat];iterate 5 refine rS ?_
  refine AWP.keepT [0,1,5] ?_;simp only[List.map,putL,dropL,Nat.beq_refl,cond_true,ea,absV,absVL,cput,gv,sv,dn,reduceCtorEq,reduceIte,Nat.reduceBEq,Nat.reduceAdd,Nat.reduceEqDiff,Nat.reduceLT,Nat.reduceLeDiff,Nat.reduceMul,Nat.reduceSub,BEq.rfl,beq_self_eq_true,Int.reduceToNat];refine rS ?_;refine AWP.seq ?_;refine AWP.openE rb 0 0 i1 10 rfl rfl ot (by simp only[putL,dropL,Nat.beq_refl,cond_true,ea,absV,absVL,cput,gv,sv,dn,reduceCtorEq,reduceIte,Nat.reduceBEq,Nat.reduceAdd,Nat.reduceEqDiff,Nat.reduceLT,Nat.reduceLeDiff,Nat.reduceMul,Nat.reduceSub,BEq.rfl,beq_self_eq_true,Int.reduceToNat];rfl) ?_;simp only[putL,dropL,Nat.beq_refl,cond_true,ea,absV,absVL,cput,gv,sv,dn,reduceCtorEq,reduceIte,Nat.reduceBEq,Nat.reduceAdd,Nat.reduceEqDiff,Nat.reduceLT,Nat.reduceLeDiff,Nat.reduceMul,Nat.reduceSub,BEq.rfl,beq_self_eq_true,Int.reduceToNat];refine rS ?_;simp only[ol];refine AWP.closeE 0 0 i1 10 1 rfl rfl rfl (by decide) ot (by simp only[putL,dropL,Nat.beq_refl,cond_true,ea,absV,absVL,cput,gv,sv,dn,reduceCtorEq,reduceIte,Nat.reduceBEq,Nat.reduceAdd,Nat.reduceEqDiff,Nat.reduceLT,Nat.reduceLeDiff,Nat.reduceMul,Nat.reduceSub,BEq.rfl,beq_self_eq_true,Int.reduceToNat];rfl) (fun k hk=>by rfl) ?_;simp only[putL,dropL,Nat.beq_refl,cond_true,ea,absV,absVL,cput,gv,sv,dn,reduceCtorEq,reduceIte,Nat.reduceBEq,Nat.reduceAdd,Nat.reduceEqDiff,Nat.reduceLT,Nat.reduceLeDiff,Nat.reduceMul,Nat.reduceSub,BEq.rfl,beq_self_eq_true,Int.reduceToNat];iterate 3 refine rS ?_
  refine AWP.keepT [0,1,5] ?_;simp only[List.map,putL,dropL,Nat.beq_refl,cond_true,ea,absV,absVL,cput,gv,sv,dn,reduceCtorEq,reduceIte,Nat.reduceBEq,Nat.reduceAdd,Nat.reduceEqDiff,Nat.reduceLT,Nat.reduceLeDiff,Nat.reduceMul,Nat.reduceSub,BEq.rfl,beq_self_eq_true,Int.reduceToNat];iterate 3 refine rS ?_
  refine AWP.seq ?_;refine AWP.openE rb 0 0 i1 14 rfl rfl ot (by simp only[putL,dropL,Nat.beq_refl,cond_true,ea,absV,absVL,cput,gv,sv,dn,reduceCtorEq,reduceIte,Nat.reduceBEq,Nat.reduceAdd,Nat.reduceEqDiff,Nat.reduceLT,Nat.reduceLeDiff,Nat.reduceMul,Nat.reduceSub,BEq.rfl,beq_self_eq_true,Int.reduceToNat];rfl) ?_;simp only[putL,dropL,Nat.beq_refl,cond_true,ea,absV,absVL,cput,gv,sv,dn,reduceCtorEq,reduceIte,Nat.reduceBEq,Nat.reduceAdd,Nat.reduceEqDiff,Nat.reduceLT,Nat.reduceLeDiff,Nat.reduceMul,Nat.reduceSub,BEq.rfl,beq_self_eq_true,Int.reduceToNat];refine rS ?_;simp only[ol];refine AWP.closeE 0 0 i1 14 2 rfl rfl rfl (by decide) ot (by simp only[putL,dropL,Nat.beq_refl,cond_true,ea,absV,absVL,cput,gv,sv,dn,reduceCtorEq,reduceIte,Nat.reduceBEq,Nat.reduceAdd,Nat.reduceEqDiff,Nat.reduceLT,Nat.reduceLeDiff,Nat.reduceMul,Nat.reduceSub,BEq.rfl,beq_self_eq_true,Int.reduceToNat];rfl) (fun k hk=>by rfl) ?_;simp only[putL,dropL,Nat.beq_refl,cond_true,ea,absV,absVL,cput,gv,sv,dn,reduceCtorEq,reduceIte,Nat.reduceBEq,Nat.reduceAdd,Nat.reduceEqDiff,Nat.reduceLT,Nat.reduceLeDiff,Nat.reduceMul,Nat.reduceSub,BEq.rfl,beq_self_eq_true,Int.reduceToNat];refine rS ?_;refine AWP.keepT [0,1,5] ?_;simp only[List.map,putL,dropL,Nat.beq_refl,cond_true,ea,absV,absVL,cput,gv,sv,dn,reduceCtorEq,reduceIte,Nat.reduceBEq,Nat.reduceAdd,Nat.reduceEqDiff,Nat.reduceLT,Nat.reduceLeDiff,Nat.reduceMul,Nat.reduceSub,BEq.rfl,beq_self_eq_true,Int.reduceToNat];iterate 2 refine rS ?_
  exact⟨_,[0],hlt1,by(exact mrg),hz1,sm⟩
 ·obtain rfl:i1=a0.length:=ot
  rw[yj (Nat.le_refl _)]at hz1;subst hz1;dsimp only at hR;refine AWP.exit ?_;refine yb ?_;refine rS ?_;refine AWP.ret ?_;subst hR;exact es
end N29
def ywe (x:Aid) (k:Int):Int×Aid:=
 (IntKind.wrap .i64 (((zj (x.Sectors) (IntKind.wrap .i64 ((IntKind.wrap .i64 ((IntKind.wrap .i64 (((zd ((x.Light).Group) (IntKind.wrap .i64 ((IntKind.wrap .i64 ((IntKind.wrap .i64 ((IntKind.wrap .i64 ((IntKind.wrap .i64 ((IntKind.wrap .i64 ((IntKind.wrap .i64 ((IntKind.wrap .i64 ((IntKind.wrap .i64 ((IntKind.wrap .i64 (k+1))+1))+1))+1))+1))+1))+1))+1))+1))+1))).1)+1))+1))+1))).1)+1),{ Number:=k,Name:=(zk (IntKind.wrap .i64 (k+1))),At:={ X:=IntKind.wrap .i64 ((IntKind.wrap .i64 (k+1))+1),Y:=IntKind.wrap .i64 ((IntKind.wrap .i64 ((IntKind.wrap .i64 (k+1))+1))+1):Point },Height:=IntKind.wrap .i64 ((IntKind.wrap .i64 ((IntKind.wrap .i64 ((IntKind.wrap .i64 (k+1))+1))+1))+1),Mark:={ Kind:=IntKind.wrap .i64 ((IntKind.wrap .i64 ((IntKind.wrap .i64 ((IntKind.wrap .i64 ((IntKind.wrap .i64 (k+1))+1))+1))+1))+1),Colors:=(zk (IntKind.wrap .i64 ((IntKind.wrap .i64 ((IntKind.wrap .i64 ((IntKind.wrap .i64 ((IntKind.wrap .i64 ((IntKind.wrap .i64 (k+1))+1))+1))+1))+1))+1))),Shape:=(zk (IntKind.wrap .i64 ((IntKind.wrap .i64 ((IntKind.wrap .i64 ((IntKind.wrap .i64 ((IntKind.wrap .i64 ((IntKind.wrap .i64 ((IntKind.wrap .i64 (k+1))+1))+1))+1))+1))+1))+1))),Topmark:=(zk (IntKind.wrap .i64 ((IntKind.wrap .i64 ((IntKind.wrap .i64 ((IntKind.wrap .i64 ((IntKind.wrap .i64 ((IntKind.wrap .i64 ((IntKind.wrap .i64 ((IntKind.wrap .i64 (k+1))+1))+1))+1))+1))+1))+1))+1))):Mark },Light:={ Kind:=IntKind.wrap .i64 ((IntKind.wrap .i64 ((IntKind.wrap .i64 ((IntKind.wrap .i64 ((IntKind.wrap .i64 ((IntKind.wrap .i64 ((IntKind.wrap .i64 ((IntKind.wrap .i64 ((IntKind.wrap .i64 (k+1))+1))+1))+1))+1))+1))+1))+1))+1),Group:=(zd ((x.Light).Group) (IntKind.wrap .i64 ((IntKind.wrap .i64 ((IntKind.wrap .i64 ((IntKind.wrap .i64 ((IntKind.wrap .i64 ((IntKind.wrap .i64 ((IntKind.wrap .i64 ((IntKind.wrap .i64 ((IntKind.wrap .i64 ((IntKind.wrap .i64 (k+1))+1))+1))+1))+1))+1))+1))+1))+1))+1))).2,Letter:=(zk ((zd ((x.Light).Group) (IntKind.wrap .i64 ((IntKind.wrap .i64 ((IntKind.wrap .i64 ((IntKind.wrap .i64 ((IntKind.wrap .i64 ((IntKind.wrap .i64 ((IntKind.wrap .i64 ((IntKind.wrap .i64 ((IntKind.wrap .i64 ((IntKind.wrap .i64 (k+1))+1))+1))+1))+1))+1))+1))+1))+1))+1))).1)),Colors:=(zk (IntKind.wrap .i64 (((zd ((x.Light).Group) (IntKind.wrap .i64 ((IntKind.wrap .i64 ((IntKind.wrap .i64 ((IntKind.wrap .i64 ((IntKind.wrap .i64 ((IntKind.wrap .i64 ((IntKind.wrap .i64 ((IntKind.wrap .i64 ((IntKind.wrap .i64 ((IntKind.wrap .i64 (k+1))+1))+1))+1))+1))+1))+1))+1))+1))+1))).1)+1))),Period:=IntKind.wrap .i64 ((IntKind.wrap .i64 (((zd ((x.Light).Group) (IntKind.wrap .i64 ((IntKind.wrap .i64 ((IntKind.wrap .i64 ((IntKind.wrap .i64 ((IntKind.wrap .i64 ((IntKind.wrap .i64 ((IntKind.wrap .i64 ((IntKind.wrap .i64 ((IntKind.wrap .i64 ((IntKind.wrap .i64 (k+1))+1))+1))+1))+1))+1))+1))+1))+1))+1))).1)+1))+1):Character },Sectors:=(zj (x.Sectors) (IntKind.wrap .i64 ((IntKind.wrap .i64 ((IntKind.wrap .i64 (((zd ((x.Light).Group) (IntKind.wrap .i64 ((IntKind.wrap .i64 ((IntKind.wrap .i64 ((IntKind.wrap .i64 ((IntKind.wrap .i64 ((IntKind.wrap .i64 ((IntKind.wrap .i64 ((IntKind.wrap .i64 ((IntKind.wrap .i64 ((IntKind.wrap .i64 (k+1))+1))+1))+1))+1))+1))+1))+1))+1))+1))).1)+1))+1))+1))).2,Intensity:=((zj (x.Sectors) (IntKind.wrap .i64 ((IntKind.wrap .i64 ((IntKind.wrap .i64 (((zd ((x.Light).Group) (IntKind.wrap .i64 ((IntKind.wrap .i64 ((IntKind.wrap .i64 ((IntKind.wrap .i64 ((IntKind.wrap .i64 ((IntKind.wrap .i64 ((IntKind.wrap .i64 ((IntKind.wrap .i64 ((IntKind.wrap .i64 ((IntKind.wrap .i64 (k+1))+1))+1))+1))+1))+1))+1))+1))+1))+1))).1)+1))+1))+1))).1):Aid })
theorem yfq (a:List Aid) (k:Int):zsb a k=yte ywe a k:=by
 unfold zsb;have:=ycg ywe (y0h a k) (fun i s=>rfl) a [] k;simp only[List.length_nil,List.nil_append,Nat.sub_zero]at this ⊢;rw[this]
def aidB (x:Aid):Prop:=x.Light.Group.length<=1048576/\x.Sectors.length<=1048576
theorem ykt (x:Aid) (k:Int) (hx:aidB x) (h0:0<=k) (h1:k<=281474976710656):(ywe x k).1=k+14+x.Light.Group.length+3 * x.Sectors.length:=by
 obtain⟨b1,b2⟩:=hx;unfold ywe;simp(disch:=omega) only[wr1]
 have g1:k+1+1+1+1+1+1+1+1+1+1=k+10:=by omega
 rw[g1,zd_k _ _ (by omega) (by omega) (by omega)];simp(disch:=omega) only[wr1]
 rw[yyj _ _ (by omega) (by omega) (by omega)];simp(disch:=omega) only[wr1]
 omega
theorem ymn (x:Aid) (k:Int) (hx:aidB x) (h0:0<=k) (h1:k<=281474976710656):k<=(ywe x k).1/\(ywe x k).1<=k+4194400:=by
 rw[ykt x k hx h0 h1];obtain⟨b1,b2⟩:=hx;omega
theorem yrk (a:List Aid) (k:Int) (ha:∀ x∈a,aidB x) (hl:a.length<=1048576) (h0:0<=k) (h1:k<=140737488355328):k<=(zsb a k).1/\(zsb a k).1<=k+4194400 * a.length:=by
 rw[yfq];exact yko ywe aidB 4194400 281474976710656 (by omega) ymn a k ha h0 (by omega)
def aidP (v:Aid):Prop:=aidL v/\aidB v
theorem y8x {v:Aid} (h:bwAid v) (h2:y5r v):aidP v:=⟨⟨h.2.2.1.2.2,by have:=h2.2.2.2.1;omega⟩,⟨h2.2.2.1.1,h2.2.2.2.1⟩⟩
def zwc (a0:Point):Point:=
 a0
namespace N68
theorem DD:DOk Tryz.prog (Go.Ab.DD []):=yc _
theorem den (a0:Point)  : Den Tryz.prog 68 [.agg (ePoint a0)] (.agg (ePoint (zwc a0))):=by
 generalize hR:zwc a0=r;unfold zwc at hR;refine di Tryz.func68 Tryz.ntmps68 Tryz.results68 ?_;intro c hL hc hk;clear hL;simp only[pars,Nat.zero_add];iterate 5 refine rS ?_
 refine AWP.ret ?_;subst hR;exact es
end N68
def D_zwc : DF
 | [x0]=>some (.agg (ePoint (zwc (rdG yw x0))),false,[wG ePoint yw x0])
 | _=>none
theorem ykp:OkD Tryz.prog 68 D_zwc:=by unfold D_zwc;exact dk N68.den
def zwd (a0:Mark):Mark:=
 a0
namespace N69
theorem DD:DOk Tryz.prog (Go.Ab.DD []):=yc _
theorem den (a0:Mark)  : Den Tryz.prog 69 [.agg (eMark a0)] (.agg (eMark (zwd a0))):=by
 generalize hR:zwd a0=r;unfold zwd at hR;refine di Tryz.func69 Tryz.ntmps69 Tryz.results69 ?_;intro c hL hc hk;obtain⟨hL0,_⟩:=hL;have hw0:bwMark a0:=yrc a0 hL0;clear hL0;simp only[pars,Nat.zero_add];iterate 7 refine rS ?_
 refine AWP.ret ?_;subst hR;exact es
end N69
def D_zwd : DF
 | [x0]=>some (.agg (eMark (zwd (rdG y7d x0))),false,[wG eMark y7d x0])
 | _=>none
theorem yfw:OkD Tryz.prog 69 D_zwd:=by unfold D_zwd;exact dk N69.den
def ywl (a0:(List Int)) (i1:Nat) (s1:List Int):Except ((List Int)) (List Int):=
 .ok (s1.set i1 (a0.getD i1 default))
def ztb (a0:(List Int)):(List Int):=
 (match yf (ywl a0) (a0.length-0) 0 (List.replicate a0.length (default:Int))with|.error e=>e|.ok s1=>s1)
namespace N125
theorem DD:DOk Tryz.prog (Go.Ab.DD []):=yc _
theorem den (a0:(List Int)) (hb0:a0.length<1099511627776):Den Tryz.prog 125 [encL 1 yl a0] (ownL 2 1 yl (ztb a0)):=by
 generalize hR:ztb a0=r;unfold ztb at hR;refine di Tryz.func125 Tryz.ntmps125 Tryz.results125 ?_;intro c hL hc hk;obtain⟨hL0,_⟩:=hL;have hw0:a0.length<9223372036854775808:=Nat.lt_succ_of_le (ye hL0).1;clear hL0;simp only[pars,Nat.zero_add];iterate 3 refine rS ?_
 refine AWP.block ?_;generalize hz1:yf (ywl a0) (a0.length-0) 0 (List.replicate a0.length (default:Int))=z1 at hR;refine AWP.range (ywl a0) (fun i1 s1=>⟨[(0,encL 1 yl a0),(3,.ref 0 1 0 s1.length),(4,.int .i64 (i1:Int))],[.arr 2 1 s1.length (fun j=>yl (s1.getD j default))]⟩) (fun i1 s1=>s1.length=(List.replicate a0.length (default:Int)).length) (a0.length) 0 (List.replicate a0.length (default:Int)) [0] hz1 ot wt sm ?_;clear hz1;intro i1 s1 hi1 hW1 hz1;refine rS ?_;refine AWP.cond rfl (fun hb => ?_) (fun hb => ?_)
 ·have hlt1:i1<a0.length:=ot
  rw[yk hlt1]at hz1;simp only[ywl]at hz1;iterate 2 refine rS ?_
  exact⟨_,[0],hlt1,wt,hz1,sm⟩
 ·obtain rfl:i1=a0.length:=ot
  rw[yj (Nat.le_refl _)]at hz1;subst hz1;dsimp only at hR;refine AWP.exit ?_;refine yb ?_;refine rS ?_;refine AWP.ret ?_;subst hR;exact es
end N125
def D_ztb : DF
 | [x0]=>some (ownL 2 1 yl (ztb (rdL yab x0)),false,[wL 1 yl yab x0,(rdL yab x0).length<1099511627776])
 | _=>none
theorem y9v:OkD Tryz.prog 125 D_ztb:=by unfold D_ztb;exact dk N125.den
theorem yls (a:List Int):ztb a=a:=by
 unfold ztb;rw[yhg (b:=ywl a) (fun i=>a.getD i default) (by simp) (fun i s _=>rfl)];skip
 exact yz a
def zxd (a0:Character):Character:=
 { Kind:=a0.Kind,Group:=(ztb a0.Group),Letter:=a0.Letter,Colors:=a0.Colors,Period:=a0.Period:Character }
namespace N70
theorem DD:DOk Tryz.prog (Go.Ab.DD [(125,dP D_ztb)]):=ya y9v.e <| yc _
theorem dn:type_of% (@D_ztb.eq_1):=by and_intros<;>intros<;>rfl
theorem ol:type_of% (@yls):=@yls
theorem den (a0:Character) (hb0:bdCharacter a0):Den Tryz.prog 70 [.agg (eCharacter a0)] (.agg (yud (zxd a0))):=by
 generalize hR:zxd a0=r;unfold zxd at hR;refine di Tryz.func70 Tryz.ntmps70 Tryz.results70 ?_;intro c hL hc hk;obtain⟨hL0,_⟩:=hL;have hw0:bwCharacter a0:=yn a0 hL0;clear hL0;simp only[pars,Nat.zero_add];iterate 8 refine rS ?_
 refine AWP.ret ?_;subst hR;exact es
end N70
def D_zxd : DF
 | [x0]=>some (.agg (yud (zxd (rdG yd x0))),false,[wG eCharacter yd x0,bdCharacter (rdG yd x0)])
 | _=>none
theorem y4u:OkD Tryz.prog 70 D_zxd:=by unfold D_zxd;exact dk N70.den
def zpd (a0:Sector):Sector:=
 a0
namespace N126
theorem DD:DOk Tryz.prog (Go.Ab.DD []):=yc _
theorem den (a0:Sector)  : Den Tryz.prog 126 [.agg (eSector a0)] (.agg (eSector (zpd a0))):=by
 generalize hR:zpd a0=r;unfold zpd at hR;refine di Tryz.func126 Tryz.ntmps126 Tryz.results126 ?_;intro c hL hc hk;obtain⟨hL0,_⟩:=hL;have hw0:bwSector a0:=yq a0 hL0;clear hL0;simp only[pars,Nat.zero_add];iterate 6 refine rS ?_
 refine AWP.ret ?_;subst hR;exact es
end N126
def D_zpd : DF
 | [x0]=>some (.agg (eSector (zpd (rdG ym x0))),false,[wG eSector ym x0])
 | _=>none
theorem yvv:OkD Tryz.prog 126 D_zpd:=by unfold D_zpd;exact dk N126.den
def y5k (a0:(List Sector)) (i1:Nat) (s1:List Sector):Except ((List Sector)) (List Sector):=
 .ok (s1.set i1 (zpd (a0.getD i1 default)))
def zub (a0:(List Sector)):(List Sector):=
 (match yf (y5k a0) (a0.length-0) 0 (List.replicate a0.length (default:Sector))with|.error e=>e|.ok s1=>s1)
namespace N71
theorem DD:DOk Tryz.prog (Go.Ab.DD [(126,dP D_zpd)]):=ya yvv.e <| yc _
theorem dn:type_of% (@D_zpd.eq_1):=by and_intros<;>intros<;>rfl
theorem den (a0:(List Sector)) (hb0:a0.length<1099511627776) (hb1:∀ v∈a0,bdSector v):Den Tryz.prog 71 [encL 3 eSector a0] (ownL 165 3 eSector (zub a0)):=by
 generalize hR:zub a0=r;unfold zub at hR;refine di Tryz.func71 Tryz.ntmps71 Tryz.results71 ?_;intro c hL hc hk;obtain⟨hL0,_⟩:=hL;have hw0:a0.length<9223372036854775808:=Nat.lt_succ_of_le (ye hL0).1;have hw1:∀ v∈a0,bwSector v:=fun v hv=>yq v ((ye hL0).2 v hv)
 clear hL0;simp only[pars,Nat.zero_add];iterate 3 refine rS ?_
 refine AWP.block ?_;generalize hz1:yf (y5k a0) (a0.length-0) 0 (List.replicate a0.length (default:Sector))=z1 at hR;refine AWP.range (y5k a0) (fun i1 s1=>⟨[(0,encL 3 eSector a0),(3,.ref 0 3 0 s1.length),(4,.int .i64 (i1:Int))],[.arr 165 3 s1.length (fun j=>eSector (s1.getD j default))]⟩) (fun i1 s1=>s1.length=(List.replicate a0.length (default:Sector)).length) (a0.length) 0 (List.replicate a0.length (default:Sector)) [0] hz1 ot wt sm ?_;clear hz1;intro i1 s1 hi1 hW1 hz1;refine rS ?_;refine AWP.cond rfl (fun hb => ?_) (fun hb => ?_)
 ·have hlt1:i1<a0.length:=ot
  rw[yk hlt1]at hz1;simp only[y5k]at hz1;iterate 2 refine rS ?_
  exact⟨_,[0],hlt1,wt,hz1,sm⟩
 ·obtain rfl:i1=a0.length:=ot
  rw[yj (Nat.le_refl _)]at hz1;subst hz1;dsimp only at hR;refine AWP.exit ?_;refine yb ?_;refine rS ?_;refine AWP.ret ?_;subst hR;exact es
end N71
def D_zub : DF
 | [x0]=>some (ownL 165 3 eSector (zub (rdL ym x0)),false,[wL 3 eSector ym x0,(rdL ym x0).length<1099511627776,∀ v∈(rdL ym x0),bdSector v])
 | _=>none
theorem yow:OkD Tryz.prog 71 D_zub:=by unfold D_zub;exact dk N71.den
theorem ygz (v:Sector):zpd v=v:=by
 unfold zpd;rfl
theorem ynt (a:List Sector):zub a=a:=by
 unfold zub;rw[yhg (b:=y5k a) (fun i=>zpd (a.getD i default)) (by simp) (fun i s _=>rfl)];simp only[ygz];exact yz a
def zbd (a0:Aid):Aid:=
 { Number:=a0.Number,Name:=a0.Name,At:=(zwc a0.At),Height:=a0.Height,Mark:=(zwd a0.Mark),Light:=zxd a0.Light,Sectors:=(zub a0.Sectors),Intensity:=a0.Intensity:Aid }
namespace N19
theorem DD:DOk Tryz.prog (Go.Ab.DD [(68,dP D_zwc),(69,dP D_zwd),(70,dP D_zxd),(71,dP D_zub)]):=ya ykp.e <| ya yfw.e <| ya y4u.e <| ya yow.e <| yc _
theorem dn:type_of% (And.intro @D_zwc.eq_1 <| And.intro @D_zwd.eq_1 <| And.intro @D_zxd.eq_1 <| @D_zub.eq_1):=by and_intros<;>intros<;>rfl
theorem ol:type_of% (@ynt):=@ynt
theorem den (a0:Aid) (hb0:bdAid a0):Den Tryz.prog 19 [.agg (eAid a0)] (.agg (y8f (zbd a0))):=by
 generalize hR:zbd a0=r;unfold zbd at hR;refine di Tryz.func19 Tryz.ntmps19 Tryz.results19 ?_;intro c hL hc hk;obtain⟨hL0,_⟩:=hL;have hw0:bwAid a0:=y9 a0 hL0;clear hL0;simp only[pars,Nat.zero_add];iterate 11 refine rS ?_
 refine AWP.ret ?_;subst hR;exact es
end N19
def D_zbd : DF
 | [x0]=>some (.agg (y8f (zbd (rdG dAid x0))),false,[wG eAid dAid x0,bdAid (rdG dAid x0)])
 | _=>none
theorem yju:OkD Tryz.prog 19 D_zbd:=by unfold D_zbd;exact dk N19.den
theorem yhz (v:Point):zwc v=v:=by
 unfold zwc;rfl
theorem yoz (v:Mark):zwd v=v:=by
 unfold zwd;rfl
theorem y3z (v:Character):zxd v=v:=by
 unfold zxd;simp only[yls]
theorem y2s (v:Aid):zbd v=v:=by
 unfold zbd;simp only[yhz,yoz,y3z,ynt]
def yes (a0:(List Aid)) (i1:Nat) (s1:List Aid):Except ((List Aid)) (List Aid):=
 .ok (s1.set i1 (zbd (a0.getD i1 default)))
def zh (a0:(List Aid)):(List Aid):=
 (match yf (yes a0) (a0.length-0) 0 (List.replicate a0.length (default:Aid))with|.error e=>e|.ok s1=>s1)
namespace N26
theorem DD:DOk Tryz.prog (Go.Ab.DD [(19,dP D_zbd)]):=ya yju.e <| yc _
theorem dn:type_of% (@D_zbd.eq_1):=by and_intros<;>intros<;>rfl
theorem ol:type_of% (@y2s):=@y2s
theorem den (a0:(List Aid)) (hb0:a0.length<1099511627776) (hb1:∀ v∈a0,bdAid v) (hp0:a0.length<=1048576):Den Tryz.prog 26 [encL 16 eAid a0] (ownL 45 16 y8f (zh a0)):=by
 generalize hR:zh a0=r;unfold zh at hR;refine di Tryz.func26 Tryz.ntmps26 Tryz.results26 ?_;intro c hL hc hk;obtain⟨hL0,_⟩:=hL;have hw0:a0.length<9223372036854775808:=Nat.lt_succ_of_le (ye hL0).1;have hw1:∀ v∈a0,bwAid v:=fun v hv=>y9 v ((ye hL0).2 v hv)
 clear hL0;simp only[pars,Nat.zero_add];iterate 2 refine rS ?_
 refine AWP.arrS 0 (fun j=>y8f ((List.replicate a0.length (default:Aid)).getD j default)) rfl zs ?_;simp only[setE];refine rS ?_;refine AWP.block ?_;generalize hz1:yf (yes a0) (a0.length-0) 0 (List.replicate a0.length (default:Aid))=z1 at hR;refine AWP.range (yes a0) (fun i1 s1=>⟨[(0,encL 16 eAid a0),(3,.ref 0 16 0 s1.length),(4,.int .i64 (i1:Int))],[.arr 45 16 s1.length (fun j=>y8f (s1.getD j default))]⟩) (fun i1 s1=>s1.length=(List.replicate a0.length (default:Aid)).length) (a0.length) 0 (List.replicate a0.length (default:Aid)) [0] hz1 ot wt sm ?_;clear hz1;intro i1 s1 hi1 hW1 hz1;refine rS ?_;refine AWP.cond rfl (fun hb => ?_) (fun hb => ?_)
 ·have hlt1:i1<a0.length:=ot
  rw[yk hlt1]at hz1;simp only[yes]at hz1;iterate 2 refine rS ?_
  exact⟨_,[0],hlt1,wt,hz1,sm⟩
 ·obtain rfl:i1=a0.length:=ot
  rw[yj (Nat.le_refl _)]at hz1;subst hz1;dsimp only at hR;refine AWP.exit ?_;refine yb ?_;refine rS ?_;refine AWP.ret ?_;subst hR;exact es
end N26
def D_zh : DF
 | [x0]=>some (ownL 45 16 y8f (zh (rdL dAid x0)),false,[wL 16 eAid dAid x0,(rdL dAid x0).length<1099511627776,∀ v∈(rdL dAid x0),bdAid v,(rdL dAid x0).length<=1048576])
 | _=>none
theorem y8y:OkD Tryz.prog 26 D_zh:=by unfold D_zh;exact dk N26.den
theorem y7x (a:List Aid):zh a=a:=by
 unfold zh;rw[yhg (b:=yes a) (fun i=>zbd (a.getD i default)) (by simp) (fun i s _=>rfl)];simp only[y2s];exact yz a
def zyd (a0:Point) (a1:Point):Bool:=
 (bif (a0.X != a1.X)then false else(bif (a0.Y != a1.Y)then false else true))
namespace N75
theorem DD:DOk Tryz.prog (Go.Ab.DD []):=yc _
theorem den (a0:Point) (a1:Point)  : Den Tryz.prog 75 [.agg (ePoint a0),.agg (ePoint a1)] (.bool (zyd a0 a1)):=by
 generalize hR:zyd a0 a1=r;unfold zyd at hR;refine di Tryz.func75 Tryz.ntmps75 Tryz.results75 ?_;intro c hL hc hk;clear hL;simp only[pars,Nat.zero_add];iterate 2 refine rS ?_
 refine AWP.cond rfl (fun hb => ?_) (fun hb => ?_)
 ·replace hR:=ct hR
  refine rS ?_;refine AWP.ret ?_;subst hR;exact es
 ·replace hR:=cf hR
  refine rS ?_;refine AWP.cond rfl (fun hb => ?_) (fun hb => ?_)
  ·replace hR:=ct hR
   refine rS ?_;refine AWP.ret ?_;subst hR;exact es
  ·replace hR:=cf hR
   refine rS ?_;refine AWP.ret ?_;subst hR;exact es
end N75
def D_zyd : DF
 | [x0,x1]=>some (.bool (zyd (rdG yw x0) (rdG yw x1)),false,[wG ePoint yw x0,wG ePoint yw x1])
 | _=>none
theorem yxv:OkD Tryz.prog 75 D_zyd:=by unfold D_zyd;exact dk N75.den
def zzd (a0:Mark) (a1:Mark):Bool:=
 (bif (a0.Kind != a1.Kind)then false else(bif (a0.Colors != a1.Colors)then false else(bif (a0.Shape != a1.Shape)then false else(bif (a0.Topmark != a1.Topmark)then false else true))))
namespace N76
theorem DD:DOk Tryz.prog (Go.Ab.DD []):=yc _
theorem den (a0:Mark) (a1:Mark)  : Den Tryz.prog 76 [.agg (eMark a0),.agg (eMark a1)] (.bool (zzd a0 a1)):=by
 generalize hR:zzd a0 a1=r;unfold zzd at hR;refine di Tryz.func76 Tryz.ntmps76 Tryz.results76 ?_;intro c hL hc hk;obtain⟨hL0,hL1,_⟩:=hL;have hw0:bwMark a0:=yrc a0 hL0;have hw1:bwMark a1:=yrc a1 hL1;clear hL0 hL1;simp only[pars,Nat.zero_add];iterate 2 refine rS ?_
 refine AWP.cond rfl (fun hb => ?_) (fun hb => ?_)
 ·replace hR:=ct hR
  refine rS ?_;refine AWP.ret ?_;subst hR;exact es
 ·replace hR:=cf hR
  refine rS ?_;refine AWP.cond rfl (fun hb => ?_) (fun hb => ?_)
  ·replace hR:=ct hR
   refine rS ?_;refine AWP.ret ?_;subst hR;exact es
  ·replace hR:=cf hR
   refine rS ?_;refine AWP.cond rfl (fun hb => ?_) (fun hb => ?_)
   ·replace hR:=ct hR
    refine rS ?_;refine AWP.ret ?_;subst hR;exact es
   ·replace hR:=cf hR
    refine rS ?_;refine AWP.cond rfl (fun hb => ?_) (fun hb => ?_)
    ·replace hR:=ct hR
     refine rS ?_;refine AWP.ret ?_;subst hR;exact es
    ·replace hR:=cf hR
     refine rS ?_;refine AWP.ret ?_;subst hR;exact es
end N76
def D_zzd : DF
 | [x0,x1]=>some (.bool (zzd (rdG y7d x0) (rdG y7d x1)),false,[wG eMark y7d x0,wG eMark y7d x1])
 | _=>none
theorem yxu:OkD Tryz.prog 76 D_zzd:=by unfold D_zzd;exact dk N76.den
def y7p (a0:(List Int)) (a1:(List Int)) (i1:Nat) (s1:Unit):Except (Bool) (Unit):=
 (bif ((a0.getD i1 default) != (a1.getD i1 default))then .error false else .ok ())
def zr (a0:(List Int)) (a1:(List Int)):Bool:=
 (bif ((a0.length:Int) != (a1.length:Int))then false else(match yf (y7p a0 a1) (a0.length-0) 0 ()with|.error e=>e|.ok s1=>true))
namespace N27
theorem DD:DOk Tryz.prog (Go.Ab.DD []):=yc _
theorem den (a0:(List Int)) (a1:(List Int))  : Den Tryz.prog 27 [encL 1 yl a0,encL 1 yl a1] (.bool (zr a0 a1)):=by
 generalize hR:zr a0 a1=r;unfold zr at hR;refine di Tryz.func27 Tryz.ntmps27 Tryz.results27 ?_;intro c hL hc hk;obtain⟨hL0,hL1,_⟩:=hL;have hw0:a0.length<9223372036854775808:=Nat.lt_succ_of_le (ye hL0).1;have hw1:a1.length<9223372036854775808:=Nat.lt_succ_of_le (ye hL1).1;clear hL0 hL1;simp only[pars,Nat.zero_add];iterate 2 refine rS ?_
 refine AWP.cond rfl (fun hb => ?_) (fun hb => ?_)
 ·replace hR:=ct hR
  refine rS ?_;refine AWP.ret ?_;subst hR;exact es
 ·replace hR:=cf hR
  refine rS ?_;refine AWP.block ?_;generalize hz1:yf (y7p a0 a1) (a0.length-0) 0 ()=z1 at hR;refine AWP.range (y7p a0 a1) (fun i1 s1=>⟨[(0,encL 1 yl a0),(1,encL 1 yl a1),(5,.int .i64 (i1:Int))],[]⟩) (fun i1 s1=>True) (a0.length) 0 () [] hz1 ot wt sm ?_;clear hz1;intro i1 s1 hi1 hW1 hz1;refine rS ?_;refine AWP.cond rfl (fun hb => ?_) (fun hb => ?_)
  ·have hlt1:i1<a0.length:=ot
   rw[yk hlt1]at hz1;simp only[y7p]at hz1;refine rD 8 ?_;refine AWP.cond rfl (fun hb => ?_) (fun hb => ?_)
   ·simp only[hb,cond_true]at hz1
    refine rS ?_;refine AWP.ret ?_;subst hz1;dsimp only at hR;subst hR;exact es
   ·simp only[hb,cond_false]at hz1
    refine rS ?_;exact⟨_,[],hlt1,wt,hz1,sm⟩
  ·obtain rfl:i1=a0.length:=ot
   rw[yj (Nat.le_refl _)]at hz1;subst hz1;dsimp only at hR;refine AWP.exit ?_;refine yb ?_;refine rS ?_;refine AWP.ret ?_;subst hR;exact es
end N27
def D_zr : DF
 | [x0,x1]=>some (.bool (zr (rdL yab x0) (rdL yab x1)),false,[wL 1 yl yab x0,wL 1 yl yab x1])
 | _=>none
theorem ykr:OkD Tryz.prog 27 D_zr:=by unfold D_zr;exact dk N27.den
def zae (a0:Character) (a1:Character):Bool:=
 (bif (a0.Kind != a1.Kind)then false else(bif (!(zr a0.Group a1.Group))then false else(bif (a0.Letter != a1.Letter)then false else(bif (a0.Colors != a1.Colors)then false else(bif (a0.Period != a1.Period)then false else true)))))
namespace N77
theorem DD:DOk Tryz.prog (Go.Ab.DD [(27,dP D_zr)]):=ya ykr.e <| yc _
theorem dn:type_of% (@D_zr.eq_1):=by and_intros<;>intros<;>rfl
theorem den (a0:Character) (a1:Character)  : Den Tryz.prog 77 [.agg (eCharacter a0),.agg (eCharacter a1)] (.bool (zae a0 a1)):=by
 generalize hR:zae a0 a1=r;unfold zae at hR;refine di Tryz.func77 Tryz.ntmps77 Tryz.results77 ?_;intro c hL hc hk;obtain⟨hL0,hL1,_⟩:=hL;have hw0:bwCharacter a0:=yn a0 hL0;have hw1:bwCharacter a1:=yn a1 hL1;clear hL0 hL1;simp only[pars,Nat.zero_add];iterate 2 refine rS ?_
 refine AWP.cond rfl (fun hb => ?_) (fun hb => ?_)
 ·replace hR:=ct hR
  refine rS ?_;refine AWP.ret ?_;subst hR;exact es
 ·replace hR:=cf hR
  refine rS ?_;refine AWP.cond rfl (fun hb => ?_) (fun hb => ?_)
  ·replace hR:=ct hR
   refine rS ?_;refine AWP.ret ?_;subst hR;exact es
  ·replace hR:=cf hR
   refine rS ?_;refine AWP.cond rfl (fun hb => ?_) (fun hb => ?_)
   ·replace hR:=ct hR
    refine rS ?_;refine AWP.ret ?_;subst hR;exact es
   ·replace hR:=cf hR
    refine rS ?_;refine AWP.cond rfl (fun hb => ?_) (fun hb => ?_)
    ·replace hR:=ct hR
     refine rS ?_;refine AWP.ret ?_;subst hR;exact es
    ·replace hR:=cf hR
     refine rS ?_;refine AWP.cond rfl (fun hb => ?_) (fun hb => ?_)
     ·replace hR:=ct hR
      refine rS ?_;refine AWP.ret ?_;subst hR;exact es
     ·replace hR:=cf hR
      refine rS ?_;refine AWP.ret ?_;subst hR;exact es
end N77
def D_zae : DF
 | [x0,x1]=>some (.bool (zae (rdG yd x0) (rdG yd x1)),false,[wG eCharacter yd x0,wG eCharacter yd x1])
 | _=>none
theorem y9t:OkD Tryz.prog 77 D_zae:=by unfold D_zae;exact dk N77.den
def zbe (a0:Sector) (a1:Sector):Bool:=
 (bif (a0.From != a1.From)then false else(bif (a0.To != a1.To)then false else(bif (a0.Color != a1.Color)then false else true)))
namespace N134
theorem DD:DOk Tryz.prog (Go.Ab.DD []):=yc _
theorem den (a0:Sector) (a1:Sector)  : Den Tryz.prog 134 [.agg (eSector a0),.agg (eSector a1)] (.bool (zbe a0 a1)):=by
 generalize hR:zbe a0 a1=r;unfold zbe at hR;refine di Tryz.func134 Tryz.ntmps134 Tryz.results134 ?_;intro c hL hc hk;obtain⟨hL0,hL1,_⟩:=hL;have hw0:bwSector a0:=yq a0 hL0;have hw1:bwSector a1:=yq a1 hL1;clear hL0 hL1;simp only[pars,Nat.zero_add];iterate 2 refine rS ?_
 refine AWP.cond rfl (fun hb => ?_) (fun hb => ?_)
 ·replace hR:=ct hR
  refine rS ?_;refine AWP.ret ?_;subst hR;exact es
 ·replace hR:=cf hR
  refine rS ?_;refine AWP.cond rfl (fun hb => ?_) (fun hb => ?_)
  ·replace hR:=ct hR
   refine rS ?_;refine AWP.ret ?_;subst hR;exact es
  ·replace hR:=cf hR
   refine rS ?_;refine AWP.cond rfl (fun hb => ?_) (fun hb => ?_)
   ·replace hR:=ct hR
    refine rS ?_;refine AWP.ret ?_;subst hR;exact es
   ·replace hR:=cf hR
    refine rS ?_;refine AWP.ret ?_;subst hR;exact es
end N134
def D_zbe : DF
 | [x0,x1]=>some (.bool (zbe (rdG ym x0) (rdG ym x1)),false,[wG eSector ym x0,wG eSector ym x1])
 | _=>none
theorem ytv:OkD Tryz.prog 134 D_zbe:=by unfold D_zbe;exact dk N134.den
def yfj (a0:(List Sector)) (a1:(List Sector)) (i1:Nat) (s1:Unit):Except (Bool) (Unit):=
 (bif (!(zbe (a0.getD i1 default) (a1.getD i1 default)))then .error false else .ok ())
def zcc (a0:(List Sector)) (a1:(List Sector)):Bool:=
 (bif ((a0.length:Int) != (a1.length:Int))then false else(match yf (yfj a0 a1) (a0.length-0) 0 ()with|.error e=>e|.ok s1=>true))
namespace N78
theorem DD:DOk Tryz.prog (Go.Ab.DD [(134,dP D_zbe)]):=ya ytv.e <| yc _
theorem dn:type_of% (@D_zbe.eq_1):=by and_intros<;>intros<;>rfl
theorem den (a0:(List Sector)) (a1:(List Sector))  : Den Tryz.prog 78 [encL 3 eSector a0,encL 3 eSector a1] (.bool (zcc a0 a1)):=by
 generalize hR:zcc a0 a1=r;unfold zcc at hR;refine di Tryz.func78 Tryz.ntmps78 Tryz.results78 ?_;intro c hL hc hk;obtain⟨hL0,hL1,_⟩:=hL;have hw0:a0.length<9223372036854775808:=Nat.lt_succ_of_le (ye hL0).1;have hw1:∀ v∈a0,bwSector v:=fun v hv=>yq v ((ye hL0).2 v hv)
 have hw2:a1.length<9223372036854775808:=Nat.lt_succ_of_le (ye hL1).1;have hw3:∀ v∈a1,bwSector v:=fun v hv=>yq v ((ye hL1).2 v hv)
 clear hL0 hL1;simp only[pars,Nat.zero_add];iterate 2 refine rS ?_
 refine AWP.cond rfl (fun hb => ?_) (fun hb => ?_)
 ·replace hR:=ct hR
  refine rS ?_;refine AWP.ret ?_;subst hR;exact es
 ·replace hR:=cf hR
  refine rS ?_;refine AWP.block ?_;generalize hz1:yf (yfj a0 a1) (a0.length-0) 0 ()=z1 at hR;refine AWP.range (yfj a0 a1) (fun i1 s1=>⟨[(0,encL 3 eSector a0),(1,encL 3 eSector a1),(5,.int .i64 (i1:Int))],[]⟩) (fun i1 s1=>True) (a0.length) 0 () [] hz1 ot wt sm ?_;clear hz1;intro i1 s1 hi1 hW1 hz1;refine rS ?_;refine AWP.cond rfl (fun hb => ?_) (fun hb => ?_)
  ·have hlt1:i1<a0.length:=ot
   rw[yk hlt1]at hz1;simp only[yfj]at hz1;refine rD 8 ?_;refine AWP.cond rfl (fun hb => ?_) (fun hb => ?_)
   ·simp only[hb,cond_true]at hz1
    refine rS ?_;refine AWP.ret ?_;subst hz1;dsimp only at hR;subst hR;exact es
   ·simp only[hb,cond_false]at hz1
    refine rS ?_;exact⟨_,[],hlt1,wt,hz1,sm⟩
  ·obtain rfl:i1=a0.length:=ot
   rw[yj (Nat.le_refl _)]at hz1;subst hz1;dsimp only at hR;refine AWP.exit ?_;refine yb ?_;refine rS ?_;refine AWP.ret ?_;subst hR;exact es
end N78
def D_zcc : DF
 | [x0,x1]=>some (.bool (zcc (rdL ym x0) (rdL ym x1)),false,[wL 3 eSector ym x0,wL 3 eSector ym x1])
 | _=>none
theorem ylv:OkD Tryz.prog 78 D_zcc:=by unfold D_zcc;exact dk N78.den
def zce (a0:Aid) (a1:Aid):Bool:=
 (bif (a0.Number != a1.Number)then false else(bif (a0.Name != a1.Name)then false else(bif (!(zyd a0.At a1.At))then false else(bif (a0.Height != a1.Height)then false else(bif (!(zzd a0.Mark a1.Mark))then false else(bif (!(zae a0.Light a1.Light))then false else(bif (!(zcc a0.Sectors a1.Sectors))then false else(bif (a0.Intensity != a1.Intensity)then false else true))))))))
namespace N21
theorem DD:DOk Tryz.prog (Go.Ab.DD [(75,dP D_zyd),(76,dP D_zzd),(77,dP D_zae),(78,dP D_zcc)]):=ya yxv.e <| ya yxu.e <| ya y9t.e <| ya ylv.e <| yc _
theorem dn:type_of% (And.intro @D_zyd.eq_1 <| And.intro @D_zzd.eq_1 <| And.intro @D_zae.eq_1 <| @D_zcc.eq_1):=by and_intros<;>intros<;>rfl
theorem den (a0:Aid) (a1:Aid)  : Den Tryz.prog 21 [.agg (eAid a0),.agg (eAid a1)] (.bool (zce a0 a1)):=by
 generalize hR:zce a0 a1=r;unfold zce at hR;refine di Tryz.func21 Tryz.ntmps21 Tryz.results21 ?_;intro c hL hc hk;obtain⟨hL0,hL1,_⟩:=hL;have hw0:bwAid a0:=y9 a0 hL0;have hw1:bwAid a1:=y9 a1 hL1;clear hL0 hL1;simp only[pars,Nat.zero_add];iterate 2 refine rS ?_
 refine AWP.cond rfl (fun hb => ?_) (fun hb => ?_)
 ·replace hR:=ct hR
  refine rS ?_;refine AWP.ret ?_;subst hR;exact es
 ·replace hR:=cf hR
  refine rS ?_;refine AWP.cond rfl (fun hb => ?_) (fun hb => ?_)
  ·replace hR:=ct hR
   refine rS ?_;refine AWP.ret ?_;subst hR;exact es
  ·replace hR:=cf hR
   refine rS ?_;refine AWP.cond rfl (fun hb => ?_) (fun hb => ?_)
   ·replace hR:=ct hR
    refine rS ?_;refine AWP.ret ?_;subst hR;exact es
   ·replace hR:=cf hR
    refine rS ?_;refine AWP.cond rfl (fun hb => ?_) (fun hb => ?_)
    ·replace hR:=ct hR
     refine rS ?_;refine AWP.ret ?_;subst hR;exact es
    ·replace hR:=cf hR
     refine rS ?_;refine AWP.cond rfl (fun hb => ?_) (fun hb => ?_)
     ·replace hR:=ct hR
      refine rS ?_;refine AWP.ret ?_;subst hR;exact es
     ·replace hR:=cf hR
      refine rS ?_;refine AWP.cond rfl (fun hb => ?_) (fun hb => ?_)
      ·replace hR:=ct hR
       refine rS ?_;refine AWP.ret ?_;subst hR;exact es
      ·replace hR:=cf hR
       refine rS ?_;refine AWP.cond rfl (fun hb => ?_) (fun hb => ?_)
       ·replace hR:=ct hR
        refine rS ?_;refine AWP.ret ?_;subst hR;exact es
       ·replace hR:=cf hR
        refine rS ?_;refine AWP.cond rfl (fun hb => ?_) (fun hb => ?_)
        ·replace hR:=ct hR
         refine rS ?_;refine AWP.ret ?_;subst hR;exact es
        ·replace hR:=cf hR
         refine rS ?_;refine AWP.ret ?_;subst hR;exact es
end N21
def D_zce : DF
 | [x0,x1]=>some (.bool (zce (rdG dAid x0) (rdG dAid x1)),false,[wG eAid dAid x0,wG eAid dAid x1])
 | _=>none
theorem you:OkD Tryz.prog 21 D_zce:=by unfold D_zce;exact dk N21.den
end Go.Ab
