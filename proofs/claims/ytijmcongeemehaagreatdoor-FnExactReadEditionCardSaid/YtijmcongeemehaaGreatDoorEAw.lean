/- A part of a proof: walks of functions and lemmas of our own. No conditions. -/
import Derived.Test.YtijmcongeemehaaGreatDoorEAv
import Derived.Test.YtijmcongeemehaaGreatDoorEAp
import Derived.Test.YtijmcongeemehaaGreatDoorEAl
import Derived.Test.YtijmcongeemehaaGreatDoorEAq
import Derived.Test.YtijmcongeemehaaGreatDoorEAu
import Derived.Test.YtijmcongeemehaaGreatDoorEAk
import Derived.Test.YtijmcongeemehaaGreatDoorEAo
set_option linter.unusedSectionVars false
set_option linter.unusedVariables false
set_option linter.unusedSimpArgs false
set_option maxHeartbeats 1000000
namespace Go.Ab
open Go Go.Proofs
theorem yve (a:List UInt8) (c:UInt8) (ha:a.length<=1099511627776):∀ (k i f:Nat) (out:List (List UInt8)),i+k=a.length->f<=i->(∀ j,f<=j->j<i->a.getD j 0≠c) ->
  ∃ s:Int×List (List UInt8),yd (ymw a c.toNat) k i ((f:Int),out)=.ok s/\s.2++[(a.take a.length).drop s.1.toNat]=out++yf c (a.drop f)
 | 0,i,f,out,hk,hf,hn=>by
  refine⟨_,rfl,?_⟩;simp only[Int.toNat_natCast,List.take_length];rw[yib];intro hc;obtain⟨j,hj⟩:=List.getElem?_of_mem hc;rw[List.getElem?_drop]at hj;have hlt:=(List.getElem?_eq_some_iff.1 hj).1;refine hn (f+j) (by omega) (by omega) ?_;rw[List.getD_eq_getElem?_getD,hj];rfl
 | k+1,i,f,out,hk,hf,hn=>by
  have hlt:i<a.length:=by omega
  simp only[yd,ymw];by_cases hc:a.getD i 0=c
  ·have hb:(((a.getD i 0).toNat:Int) == (c.toNat:Int))=true:=by rw[hc];simp
   simp only[hb,cond_true,Int.toNat_natCast];have hw:IntKind.wrap .i64 ((i:Int)+1)=((i+1:Nat):Int):=by rw[IntKind.wrap_i64];omega
   rw[hw];obtain⟨s,h1,h2⟩:=yve a c ha k (i+1) (i+1) (out++[(a.take i).drop f]) (by omega) (Nat.le_refl _) (fun j h1 h2=>by omega);refine⟨s,h1,?_⟩;rw[h2,List.append_assoc];congr 1
   have he:a.drop f=(a.take i).drop f++c::a.drop (i+1):=by
    have h3:a=a.take i++c::a.drop (i+1):=by
     conv=>lhs;rw[<- List.take_append_drop i a]
     rw[List.drop_eq_getElem_cons hlt];congr 2
     rw[<- hc,List.getD_eq_getElem?_getD,List.getElem?_eq_getElem hlt];rfl
    conv=>lhs;rw[h3]
    rw[List.drop_append_of_le_length (by simp;omega)]
   rw[he,y8]
   ·rfl
   ·intro hm
    obtain⟨j,hj⟩:=List.getElem?_of_mem hm;rw[List.getElem?_drop]at hj;have hl:=(List.getElem?_eq_some_iff.1 hj).1;simp only[List.length_take]at hl;rw[List.getElem?_take_of_lt (by omega)]at hj;refine hn (f+j) (by omega) (by omega) ?_;rw[List.getD_eq_getElem?_getD,hj];rfl
  ·have hb:(((a.getD i 0).toNat:Int) == (c.toNat:Int))=false:=by
    simp only[beq_eq_false_iff_ne];intro h;exact hc (UInt8.toNat_inj.1 (by omega))
   simp only[hb,cond_false]
   exact yve a c ha k (i+1) f out (by omega) (by omega) (fun j h1 h2=>by
    by_cases hji:j=i
    ·subst hji;exact hc
    ·exact hn j h1 (by omega))
theorem yzj (a:List UInt8) (c:UInt8) (ha:a.length<=1099511627776):za a c.toNat=yf c a:=by
 obtain⟨s,h1,h2⟩:=yve a c ha a.length 0 0 [] (by omega) (Nat.le_refl _) (fun j h1 h2=>by omega);unfold za;simp only[Nat.sub_zero];rw[show((0:Int),([]:List (List UInt8)))=(((0:Nat):Int),[])from rfl,h1];simpa using h2
theorem yy7 (a:List UInt8) (ha:a.length<=1048576):∀ x∈za a 32,x.length<=1048576:=by
 intro x hx;rw[show(32:Int)=(((32:UInt8).toNat:Nat):Int)from rfl,yzj a 32 (by omega)]at hx;have:=(yu 32 a).2 x hx;omega
def zng (a0:Aid):Bool:=
 (a0.Light.Kind != 0)
def zkb  : (List (List UInt8)):=
 ([[110,111,110,101],[108,101,102,116],[114,105,103,104,116],[110,111,114,116,104],[101,97,115,116],[115,111,117,116,104],[119,101,115,116],[100,97,110,103,101,114],[115,97,102,101],[115,112,101,99,105,97,108]]:List (List UInt8))
namespace N264
theorem DD:DOk Tryz.prog (Go.Ab.DD []):=ye _
theorem lx {p:Prop} (h:p:=by(exact lxx);first|done|fail):p:=h
theorem den   : Den Tryz.prog 264 [] (ownL 9 1 eS (zkb)):=by
 generalize hR:zkb=r;unfold zkb at hR;refine di Tryz.func264 Tryz.ntmps264 Tryz.results264 ?_;intro c hL hc hk;clear hL;simp only[pars,Nat.zero_add];iterate 2 refine rS ?_
 refine AWP.ret ?_;subst hR;exact es
end N264
def D_zkb : DF
 | []=>some (ownL 9 1 eS zkb,false,[])
 | _=>none
def Dz_zkb : DF
 | []=>some (ownL 9 1 eS zkb,true,[])
 | _=>none
theorem y7t:OkD Tryz.prog 264 D_zkb:=by unfold D_zkb;exact dk N264.den
theorem yk0:OkD Tryz.prog 264 Dz_zkb:=by unfold Dz_zkb;exact dk N264.den
def zn  : (List (List UInt8)):=
 ([[],[70],[79,99],[73,115,111],[70,108],[76,70,108],[81],[86,81],[77,111]]:List (List UInt8))
namespace N206
theorem DD:DOk Tryz.prog (Go.Ab.DD []):=ye _
theorem lx {p:Prop} (h:p:=by(exact lxx);first|done|fail):p:=h
theorem den   : Den Tryz.prog 206 [] (ownL 9 1 eS (zn)):=by
 generalize hR:zn=r;unfold zn at hR;refine di Tryz.func206 Tryz.ntmps206 Tryz.results206 ?_;intro c hL hc hk;clear hL;simp only[pars,Nat.zero_add];iterate 2 refine rS ?_
 refine AWP.ret ?_;subst hR;exact es
end N206
def D_zn : DF
 | []=>some (ownL 9 1 eS zn,false,[])
 | _=>none
def Dz_zn : DF
 | []=>some (ownL 9 1 eS zn,true,[])
 | _=>none
theorem yky:OkD Tryz.prog 206 D_zn:=by unfold D_zn;exact dk N206.den
theorem yv4:OkD Tryz.prog 206 Dz_zn:=by unfold Dz_zn;exact dk N206.den
def y6q (a0:Int) (s1:Int×List Int):Except (Sum ((List UInt8)) (Int×List Int)) (Int×List Int):=
 (bif (s1.1 != 0)then(bif decide ((s1.1.tmod 10)<0)then .ok (IntKind.wrap .i64 (s1.1.tdiv 10),s1.2++([IntKind.wrap .u8 (IntKind.wrap .i64 (48+(IntKind.wrap .i64 (0-(s1.1.tmod 10)))))]:List Int))else .ok (IntKind.wrap .i64 (s1.1.tdiv 10),s1.2++([IntKind.wrap .u8 (IntKind.wrap .i64 (48+(s1.1.tmod 10)))]:List Int)))else .error (.inr (s1.1,s1.2)))
def yrs (a0:Int) (s1:Int×List Int) (s2:Int×List Int):Except (Sum ((List UInt8)) (Int×List Int)) (Int×List Int):=
 (bif decide (0<=s2.1)then .ok (IntKind.wrap .i64 (s2.1-1),s2.2++([((s1.2++([45]:List Int)).getD ((s2.1).toNat) default)]:List Int))else .error (.inr (s2.1,s2.2)))
def yjs (a0:Int) (s1:Int×List Int) (s3:Int×List Int):Except (Sum ((List UInt8)) (Int×List Int)) (Int×List Int):=
 (bif decide (0<=s3.1)then .ok (IntKind.wrap .i64 (s3.1-1),s3.2++([(s1.2.getD ((s3.1).toNat) default)]:List Int))else .error (.inr (s3.1,s3.2)))
def zj (a0:Int):(List UInt8):=
 (bif (a0 == 0)then[48]else(match y5 (y6q a0) (((a0).natAbs)+1) (a0,([]:List Int))with|.error (.inl e)=>e|.error (.inr s1)=>(bif decide (a0<0)then(match y5 (yrs a0 s1) ((((IntKind.wrap .i64 ((s1.2.length+1:Int)-1))+1).toNat)+1) (IntKind.wrap .i64 ((s1.2.length+1:Int)-1),([]:List Int))with|.error (.inl e)=>e|.error (.inr s2)=>(s2.2.map fun z=>UInt8.ofNat z.toNat)|.ok _=>default)else(match y5 (yjs a0 s1) ((((IntKind.wrap .i64 ((s1.2.length:Int)-1))+1).toNat)+1) (IntKind.wrap .i64 ((s1.2.length:Int)-1),([]:List Int))with|.error (.inl e)=>e|.error (.inr s3)=>(s3.2.map fun z=>UInt8.ofNat z.toNat)|.ok _=>default))|.ok _=>default))
namespace N91
theorem DD:DOk Tryz.prog (Go.Ab.DD []):=ye _
theorem den (a0:Int) (hp0 : -1000000000000<=a0) (hp1:a0<=1000000000000):Den Tryz.prog 91 [.int .i64 a0] (.str (zj a0)):=by
 generalize hR:zj a0=r;unfold zj at hR;refine di Tryz.func91 Tryz.ntmps91 Tryz.results91 ?_;intro c hL hc hk;clear hL;simp only[pars,Nat.zero_add];iterate 2 refine rS ?_
 refine AWP.cond rfl (fun hb => ?_) (fun hb => ?_)
 ·replace hR:=ct hR
  refine rS ?_;refine AWP.ret ?_;subst hR;exact es
 ·replace hR:=cf hR
  iterate 2 refine rS ?_
  refine AWP.block ?_;generalize hz1:y5 (y6q a0) (((a0).natAbs)+1) (a0,([]:List Int))=z1 at hR;refine AWP.whileW (y6q a0) (fun s1=>⟨[(0,.int .i64 a0),(3,.ref 0 1 0 s1.2.length),(4,.int .i64 s1.1)],[.arr 5 1 s1.2.length (fun j=>eIu8 (s1.2.getD j default))]⟩) (fun s1 => -1000000000000<=s1.1/\s1.1<=1000000000000/\s1.2.length+(s1.1).natAbs<=1000000000000) (fun s1=>(s1.1).natAbs) (((a0).natAbs)+1) (a0,([]:List Int)) [0] hz1 m0 wt sm ?_;clear hz1;intro s1 k1 hW1 hm1 hz1;simp only[y6q]at hz1;refine rS ?_;refine AWP.cond rfl (fun hb => ?_) (fun hb => ?_)
  ·simp only[hb,cond_true]at hz1
   iterate 2 refine rS ?_
   refine AWP.cond rfl (fun hb => ?_) (fun hb => ?_)
   ·simp only[hb,cond_true]at hz1
    iterate 3 refine rS ?_
    exact⟨_,[2],by(have h10:=yxk s1.1;simp only[ob,ln,ol]at *;omega),by(have h10:=yxk s1.1;refine⟨?_,?_,?_⟩<;>simp only[ob,ln,ol]at * <;> omega),hz1,sm⟩
   ·simp only[hb,cond_false]at hz1
    iterate 2 refine rS ?_
    exact⟨_,[2],by(have h10:=yxk s1.1;simp only[ob,ln,ol]at *;omega),by(have h10:=yxk s1.1;refine⟨?_,?_,?_⟩<;>simp only[ob,ln,ol]at * <;> omega),hz1,sm⟩
  ·simp only[hb,cond_false]at hz1
   refine AWP.exit ?_;refine yb ?_;subst hz1;dsimp only at hR;refine rS ?_;refine AWP.cond rfl (fun hb => ?_) (fun hb => ?_)
   ·replace hR:=ct hR
    iterate 3 refine rS ?_
    refine AWP.block ?_;generalize hz2:y5 (yrs a0 (s1.1,s1.2)) ((((IntKind.wrap .i64 ((s1.2.length+1:Int)-1))+1).toNat)+1) (IntKind.wrap .i64 ((s1.2.length+1:Int)-1),([]:List Int))=z2 at hR;refine AWP.whileW (yrs a0 (s1.1,s1.2)) (fun s2=>⟨[(3,.ref 0 1 0 (s1.2.length+1)),(6,.ref 1 1 0 s2.2.length),(7,.int .i64 s2.1)],[.arr 5 1 (s1.2++([45]:List Int)).length (fun j=>eIu8 ((s1.2++([45]:List Int)).getD j default)),.arr 5 1 s2.2.length (fun j=>eIu8 (s2.2.getD j default))]⟩) (fun s2 => -1<=s2.1/\s2.1<=s1.2.length/\s2.1<=1000000000000/\s2.2.length+(s2.1+1).toNat<=1000000000001) (fun s2=>(s2.1+1).toNat) ((((IntKind.wrap .i64 ((s1.2.length+1:Int)-1))+1).toNat)+1) (IntKind.wrap .i64 ((s1.2.length+1:Int)-1),([]:List Int)) [2,3] hz2 m0 wt sm ?_;clear hz2;intro s2 k2 hW2 hm2 hz2;simp only[yrs]at hz2;refine rS ?_;refine AWP.cond rfl (fun hb => ?_) (fun hb => ?_)
    ·simp only[hb,cond_true]at hz2
     iterate 2 refine rS ?_
     exact⟨_,[0,3],ms,wt,hz2,sm⟩
    ·simp only[hb,cond_false]at hz2
     refine AWP.exit ?_;refine yb ?_;subst hz2;dsimp only at hR;refine rS ?_;refine AWP.ret ?_;subst hR;exact es
   ·replace hR:=cf hR
    iterate 2 refine rS ?_
    refine AWP.block ?_;generalize hz3:y5 (yjs a0 (s1.1,s1.2)) ((((IntKind.wrap .i64 ((s1.2.length:Int)-1))+1).toNat)+1) (IntKind.wrap .i64 ((s1.2.length:Int)-1),([]:List Int))=z3 at hR;refine AWP.whileW (yjs a0 (s1.1,s1.2)) (fun s3=>⟨[(3,.ref 0 1 0 s1.2.length),(6,.ref 1 1 0 s3.2.length),(7,.int .i64 s3.1)],[.arr 5 1 s1.2.length (fun j=>eIu8 (s1.2.getD j default)),.arr 5 1 s3.2.length (fun j=>eIu8 (s3.2.getD j default))]⟩) (fun s3 => -1<=s3.1/\s3.1<s1.2.length/\s3.1<=1000000000000/\s3.2.length+(s3.1+1).toNat<=1000000000001) (fun s3=>(s3.1+1).toNat) ((((IntKind.wrap .i64 ((s1.2.length:Int)-1))+1).toNat)+1) (IntKind.wrap .i64 ((s1.2.length:Int)-1),([]:List Int)) [0,1] hz3 m0 wt sm ?_;clear hz3;intro s3 k3 hW3 hm3 hz3;simp only[yjs]at hz3;refine rS ?_;refine AWP.cond rfl (fun hb => ?_) (fun hb => ?_)
    ·simp only[hb,cond_true]at hz3
     iterate 2 refine rS ?_
     exact⟨_,[0,3],ms,wt,hz3,sm⟩
    ·simp only[hb,cond_false]at hz3
     refine AWP.exit ?_;refine yb ?_;subst hz3;dsimp only at hR;refine rS ?_;refine AWP.ret ?_;subst hR;exact es
end N91
def D_zj : DF
 | [x0]=>some (.str (zj (rdI x0)),false,[wI .i64 x0,-1000000000000<=(rdI x0),(rdI x0)<=1000000000000])
 | _=>none
theorem yyn:OkD Tryz.prog 91 D_zj:=by unfold D_zj;exact dk N91.den
theorem y3 (a:List UInt8) (h:a.length<=1048576):(za a 43).length<=1048577:=by
 rw[show za a 43=yf 43 a from yzj a 43 (by omega)];have:=(yu 43 a).1;omega
theorem y4b (a:List UInt8) (i:Nat) (h:a.length<=1048576):((za a 43).getD i default).length<=1048576:=by
 rw[show za a 43=yf 43 a from yzj a 43 (by omega),List.getD_eq_getElem?_getD]
 cases hg:(yf 43 a)[i]? with
 | none=>show(0:Nat)<=1048576;omega
 | some x=>have:=(yu 43 a).2 x (List.mem_of_getElem? hg);simp only[Option.getD_some];omega
theorem yuy {l:List (List UInt8)} {m:Nat} (h:∀ x∈l,x.length<=m) (i:Nat):(l.getD i default).length<=m:=by
 rw[List.getD_eq_getElem?_getD]
 cases hg:l[i]? with
 | none=>exact Nat.zero_le _
 | some x=>exact h x (List.mem_of_getElem? hg)
theorem yed (a:List UInt8) (n:Int) (c:UInt8) (hc:(c.toNat:Int)=n) (ha:a.length<=1048576) (i:Nat):((za a n).getD i default).length<=a.length:=by
 rw[<- hc,yzj a c (by omega)];exact yuy (yu c a).2 i
theorem yjy (a:List UInt8) (n:Int) (c:UInt8) (hc:(c.toNat:Int)=n) (ha:a.length<=1048576):(za a n).length<=a.length+1:=by
 rw[<- hc,yzj a c (by omega)];exact(yu c a).1
theorem yoo (a:List UInt8) (c:UInt8) (i:Nat):((zb a [c]).getD i default).length<=a.length:=yuy (yu c a).2 i
theorem ylv (a:List UInt8) (c:UInt8):(zb a [c]).length<=a.length+1:=(yu c a).1
theorem ycz {y:List UInt8} (h:y≠[]) (hl:y.length<=1048576):IntKind.wrap .i64 ((y.length:Int)-1)=(y.length:Int)-1/\(List.take (IntKind.wrap .i64 ((y.length:Int)-1)).toNat y).length<=1048576/\1<=y.length:=by
 have:=List.length_pos_iff.2 h;refine⟨by rw[IntKind.wrap_i64];omega,?_,this⟩;rw[List.length_take];omega
def zwb (a0:(List UInt8)):(Point×Bool):=
 (bif (((za a0 44).length:Int) != 2)then({ X:=0,Y:=0:Point },false)else(bif (((!((zf ((za a0 44).getD 0 default)).2)) || (!((zf ((za a0 44).getD 1 default)).2))) || (!(zic ({ X:=(zf ((za a0 44).getD 0 default)).1,Y:=(zf ((za a0 44).getD 1 default)).1:Point }))))then({ X:=0,Y:=0:Point },false)else({ X:=(zf ((za a0 44).getD 0 default)).1,Y:=(zf ((za a0 44).getD 1 default)).1:Point },true)))
namespace N174
theorem DD:DOk Tryz.prog (Go.Ab.DD [(119,dP D_zic),(90,dP D_za),(93,dP D_zf)]):=ya y5u.e <| ya yeh.e <| ya ycm.e <| ye _
theorem dn:type_of% (And.intro @D_zic.eq_1 <| And.intro @D_za.eq_1 <| @D_zf.eq_1):=by and_intros<;>intros<;>rfl
theorem gr {p:Prop} (h:p:=by(grind [y3,y4b]);first|done|fail):p:=h
set_option maxHeartbeats 1000000 in
set_option maxRecDepth 20000 in
theorem den (a0:(List UInt8)) (hb0:a0.length<1099511627776) (hp0:a0.length<=1048576):Den Tryz.prog 174 [.str a0] (.tup [.agg (ygd ((zwb a0).1)),.bool ((zwb a0).2)]):=by
 generalize hR:zwb a0=r;unfold zwb at hR;refine di Tryz.func174 Tryz.ntmps174 Tryz.results174 ?_;intro c hL hc hk;obtain⟨hL0,_⟩:=hL;have hw0:a0.length<9223372036854775808:=Nat.lt_succ_of_le hL0;clear hL0;simp only[pars,Nat.zero_add];have s0_:=yed a0 44 44 rfl (by omega) 0;have s1_:=yed a0 44 44 rfl (by omega) 1;iterate 3 refine rS ?_
 refine AWP.cond rfl (fun hb => ?_) (fun hb => ?_)
 ·replace hR:=ct hR
  refine rS ?_;refine AWP.ret ?_;subst hR;exact es
 ·replace hR:=cf hR
  iterate 4 refine rS ?_
  refine AWP.cond rfl (fun hb => ?_) (fun hb => ?_)
  ·replace hR:=ct hR
   refine rS ?_;refine AWP.ret ?_;subst hR;exact es
  ·replace hR:=cf hR
   refine rS ?_;refine AWP.ret ?_;subst hR;exact es
end N174
def D_zwb : DF
 | [x0]=>some (.tup [.agg (ygd ((zwb (rdS x0)).1)),.bool ((zwb (rdS x0)).2)],false,[wS x0,(rdS x0).length<1099511627776,(rdS x0).length<=1048576])
 | _=>none
theorem yu2:OkD Tryz.prog 174 D_zwb:=by unfold D_zwb;exact dk N174.den
def yyv (a0:(List UInt8)) (i1:Nat) (s1:Unit):Except (Int) (Unit):=
 (bif (((zkb ).getD i1 default) == a0)then .error (i1:Int)else .ok ())
def zld (a0:(List UInt8)):Int:=
 (match yd (yyv a0) (((zkb ).length)-0) 0 ()with|.error e=>e|.ok s1=>(-1))
namespace N300
theorem DD:DOk Tryz.prog (Go.Ab.DD [(264,dP D_zkb)]):=ya y7t.e <| ye _
theorem dn:type_of% (@D_zkb.eq_1):=by and_intros<;>intros<;>rfl
theorem den (a0:(List UInt8))  : Den Tryz.prog 300 [.str a0] (.int .i64 (zld a0)):=by
 generalize hR:zld a0=r;unfold zld at hR;refine di Tryz.func300 Tryz.ntmps300 Tryz.results300 ?_;intro c hL hc hk;obtain⟨hL0,_⟩:=hL;have hw0:a0.length<9223372036854775808:=Nat.lt_succ_of_le hL0;clear hL0;simp only[pars,Nat.zero_add];have hn2:zkb.length=10:=rfl;iterate 3 refine rS ?_
 refine AWP.block ?_;generalize hz1:yd (yyv a0) (((zkb ).length)-0) 0 ()=z1 at hR;refine AWP.range (yyv a0) (fun i1 s1=>⟨[(0,.str a0),(3,.ref 0 1 0 ((zkb ).length)),(4,.int .i64 (i1:Int))],[.arr 9 1 (zkb ).length (fun j=>eS ((zkb ).getD j default))]⟩) (fun i1 s1=>True) (((zkb ).length)) 0 () [0] hz1 ot wt sm ?_;clear hz1;intro i1 s1 hi1 hW1 hz1;refine rS ?_;refine AWP.cond rfl (fun hb => ?_) (fun hb => ?_)
 ·have hlt1:i1<((zkb ).length):=ot
  rw[yg hlt1]at hz1;simp only[yyv]at hz1;refine rS ?_;refine AWP.cond rfl (fun hb => ?_) (fun hb => ?_)
  ·simp only[hb,cond_true]at hz1
   refine rS ?_;refine AWP.ret ?_;subst hz1;dsimp only at hR;subst hR;exact es
  ·simp only[hb,cond_false]at hz1
   refine rS ?_;exact⟨_,[0],hlt1,wt,hz1,sm⟩
 ·obtain rfl:i1=((zkb ).length):=ot
  rw[yh (Nat.le_refl _)]at hz1;subst hz1;dsimp only at hR;refine AWP.exit ?_;refine yb ?_;refine rS ?_;refine AWP.ret ?_;subst hR;exact es
end N300
def D_zld : DF
 | [x0]=>some (.int .i64 (zld (rdS x0)),false,[wS x0])
 | _=>none
theorem yl2:OkD Tryz.prog 300 D_zld:=by unfold D_zld;exact dk N300.den
def yug (a0:(List UInt8)) (i1:Nat) (s1:List Sector):Except (((List Sector)×Bool)) (List Sector):=
 (bif ((((za ((za a0 44).getD i1 default) 45).length:Int) != 2) || decide ((((za ((za a0 44).getD i1 default) 45).getD 1 default).length:Int)<2))then .error ([],false)else(bif ((!((zf ((za ((za a0 44).getD i1 default) 45).getD 0 default)).2)) || (!((zf (((za ((za a0 44).getD i1 default) 45).getD 1 default).take ((IntKind.wrap .i64 ((((za ((za a0 44).getD i1 default) 45).getD 1 default).length:Int)-1)).toNat))).2)))then .error ([],false)else .ok (s1++[{ From:=(zf ((za ((za a0 44).getD i1 default) 45).getD 0 default)).1,To:=(zf (((za ((za a0 44).getD i1 default) 45).getD 1 default).take ((IntKind.wrap .i64 ((((za ((za a0 44).getD i1 default) 45).getD 1 default).length:Int)-1)).toNat))).1,Color:=(((za ((za a0 44).getD i1 default) 45).getD 1 default).take (((za ((za a0 44).getD i1 default) 45).getD 1 default).length)).drop ((IntKind.wrap .i64 ((((za ((za a0 44).getD i1 default) 45).getD 1 default).length:Int)-1)).toNat):Sector }])))
def zdb (a0:(List UInt8)):((List Sector)×Bool):=
 (bif (a0 == [45])then(([]:List Sector),true)else(bif decide (12<((za a0 44).length:Int))then([],false)else(match yd (yug a0) (((za a0 44).length)-0) 0 ([]:List Sector)with|.error e=>e|.ok s1=>(bif (!(zu s1))then([],false)else(s1,true)))))
namespace N176
theorem DD:DOk Tryz.prog (Go.Ab.DD [(123,dP D_zu),(90,dP D_za),(93,dP D_zf)]):=ya yfy.e <| ya yeh.e <| ya ycm.e <| ye _
theorem dn:type_of% (And.intro @D_zu.eq_1 <| And.intro @D_za.eq_1 <| @D_zf.eq_1):=by and_intros<;>intros<;>rfl
theorem gr {p:Prop} (h:p:=by(grind [y3,y4b]);first|done|fail):p:=h
theorem o0 {p:Prop} (h:p:=by(first|(obtain⟨q0,q1,q2,q3⟩:=hlo i1 (by assumption);have h1:=e1 i1;have h2:=e3 i1 0;have h3:=e3 i1 1;(repeat' with_reducible apply And.intro)<;>first|with_reducible assumption|exact q2|(rw[q1];omega)|omega)|(have h1:=e1 i1;have h2:=e3 i1 0;have h3:=e3 i1 1;(repeat' with_reducible apply And.intro)<;>first|with_reducible assumption|omega|(intros;omega))|(obtain⟨w1,w2,w3⟩:=hW1;(repeat' with_reducible apply And.intro)<;>first|with_reducible assumption|omega)|((repeat' with_reducible apply And.intro)<;>omega));first|done|fail):p:=h
theorem o2 {p:Prop} (h:p:=by(first|((repeat' with_reducible apply And.intro)<;>first|(simp only[List.length_append,List.length_singleton];(first|done|fail))|(rw[IntKind.wrap_i64];omega)|(intro j hj;by_cases hji:j<s1.length;(focus(simp only[ycv hji,yu4 hji,cond_true];first|(first|done|fail)|with_reducible rfl));(have e0:j-s1.length=0:=by omega);(simp only[yvu hji hj,yd4 hji,cond_false,e0,elt,borrowL,borrow];first|(first|done|fail)|with_reducible rfl))|decide));first|done|fail):p:=h
set_option maxHeartbeats 1000000 in
set_option maxRecDepth 20000 in
theorem den (a0:(List UInt8)) (hb0:a0.length<1099511627776) (hp0:a0.length<=1048576):Den Tryz.prog 176 [.str a0] (.tup [ownL 135 3 ym ((zdb a0).1),.bool ((zdb a0).2)]):=by
 generalize hR:zdb a0=r;unfold zdb at hR;refine di Tryz.func176 Tryz.ntmps176 Tryz.results176 ?_;intro c hL hc hk;obtain⟨hL0,_⟩:=hL;have hw0:a0.length<9223372036854775808:=Nat.lt_succ_of_le hL0;clear hL0;simp only[pars,Nat.zero_add];have e1:=fun i=>yed a0 44 44 rfl (by omega) i
 have e2:=yjy a0 44 44 rfl (by omega);have e3:=fun i k:Nat=>yed ((za a0 44).getD i default) 45 45 rfl (by have:=e1 i;omega) k
 have hlo:∀ (i:Nat),((((za ((za a0 44).getD i default) 45).length:Int) != 2) || decide ((((za ((za a0 44).getD i default) 45).getD 1 default).length:Int)<2))=false->_:=fun i h=>And.intro (show(za ((za a0 44).getD i default) 45).length=2 by rw[Bool.or_eq_false_iff]at h;have h:=h.1;simp only[bne_eq_false_iff_eq]at h;omega) (ycz (y:=((za ((za a0 44).getD i default) 45).getD 1 default)) (by intro e;rw[Bool.or_eq_false_iff]at h;have h:=h.2;rw[e]at h;exact absurd h (by decide)) (by have h1:=e1 i;have h2:=e3 i 1;omega))
 iterate 2 refine rS ?_
 refine AWP.cond rfl (fun hb => ?_) (fun hb => ?_)
 ·replace hR:=ct hR
  refine rS ?_;refine AWP.ret ?_;subst hR;exact es
 ·replace hR:=cf hR
  iterate 2 refine rS ?_
  refine AWP.cond rfl (fun hb => ?_) (fun hb => ?_)
  ·replace hR:=ct hR
   refine rS ?_;refine AWP.ret ?_;subst hR;exact es
  ·replace hR:=cf hR
   iterate 2 refine rS ?_
   refine AWP.block ?_;generalize hz1:yd (yug a0) (((za a0 44).length)-0) 0 ([]:List Sector)=z1 at hR;refine AWP.range (yug a0) (fun i1 s1=>⟨[(4,.ref 0 1 0 ((za a0 44).length)),(5,.ref 1 3 0 s1.length),(6,.int .i64 (i1:Int))],[.arr 9 1 (za a0 44).length (fun j=>eS ((za a0 44).getD j default)),.arr 135 3 s1.length (fun j=>ym (s1.getD j default))]⟩) (fun i1 s1=>s1.length<=([]:List Sector).length+1 * i1/\s1.length<=i1/\∀ v∈s1,bdSector v) (((za a0 44).length)) 0 ([]:List Sector) [0,1] hz1 ot (by(simp)) sm ?_;clear hz1;intro i1 s1 hi1 hW1 hz1;have hV1:=hW1;obtain⟨hV1_0,hV1_1,hV1_2⟩:=hV1;refine rS ?_;refine AWP.cond rfl (fun hb => ?_) (fun hb => ?_)
   ·have hlt1:i1<((za a0 44).length):=ot
    rw[yg hlt1]at hz1;simp only[yug]at hz1;iterate 2 refine rS ?_
    refine AWP.cond rfl (fun hb => ?_) (fun hb => ?_)
    ·simp only[hb,cond_true]at hz1
     refine rS ?_;refine AWP.ret ?_;subst hz1;dsimp only at hR;subst hR;exact es
    ·simp only[hb,cond_false]at hz1
     iterate 4 refine rS ?_
     refine AWP.cond rfl (fun hb => ?_) (fun hb => ?_)
     ·simp only[hb,cond_true]at hz1
      refine rS ?_;refine AWP.ret ?_;subst hz1;dsimp only at hR;subst hR;exact es
     ·simp only[hb,cond_false]at hz1
      iterate 2 refine rS ?_
      exact⟨_,[0,4],hlt1,by(have h1:=e1 i1;have c1:=e3 i1 1;obtain⟨w0,w1,w2⟩:=hW1;refine⟨by simp only[List.length_append,List.length_cons,List.length_nil,List.length_singleton];omega,by simp only[List.length_append,List.length_cons,List.length_nil,List.length_singleton];omega,fun v hv=>(List.mem_append.1 hv).elim (fun h=>w2 v h) (fun h=>by rw[List.mem_singleton]at h;subst h;show List.length _<1099511627776;simp only[List.length_drop,List.length_take];omega)⟩),hz1,sm⟩
   ·obtain rfl:i1=((za a0 44).length):=ot
    rw[yh (Nat.le_refl _)]at hz1;subst hz1;dsimp only at hR;refine AWP.exit ?_;refine yb ?_;refine rS ?_;refine AWP.cond rfl (fun hb => ?_) (fun hb => ?_)
    ·replace hR:=ct hR
     refine rS ?_;refine AWP.ret ?_;subst hR;exact es
    ·replace hR:=cf hR
     refine rS ?_;refine AWP.ret ?_;subst hR;exact es
end N176
def D_zdb : DF
 | [x0]=>some (.tup [ownL 135 3 ym ((zdb (rdS x0)).1),.bool ((zdb (rdS x0)).2)],false,[wS x0,(rdS x0).length<1099511627776,(rdS x0).length<=1048576])
 | _=>none
theorem yk2:OkD Tryz.prog 176 D_zdb:=by unfold D_zdb;exact dk N176.den
def y2t (a0:(List UInt8)) (s1:List UInt8×List UInt8×Int):Except (Sum ((Character×Bool)) (List UInt8×List UInt8×Int)) (List UInt8×List UInt8×Int):=
 (bif decide (s1.2.2<(s1.1.length:Int))then(bif ((((s1.1.getD ((s1.2.2).toNat) 0).toNat:Int) == 40) && (((s1.1.getD ((IntKind.wrap .i64 ((s1.1.length:Int)-1)).toNat) 0).toNat:Int) == 41))then .error (.inr (s1.1.take ((s1.2.2).toNat),(s1.1.take ((IntKind.wrap .i64 ((s1.1.length:Int)-1)).toNat)).drop ((IntKind.wrap .i64 (s1.2.2+1)).toNat),s1.2.2))else .ok (s1.1,s1.2.1,IntKind.wrap .i64 (s1.2.2+1)))else .error (.inr (s1.1,s1.2.1,s1.2.2)))
def y0n (a0:(List UInt8)) (s1:List UInt8×List UInt8×Int) (i2:Nat) (s2:Int):Except ((Character×Bool)) (Int):=
 (bif (((zn ).getD i2 default) == s1.1)then .ok (i2:Int)else .ok s2)
def ykm (a0:(List UInt8)) (s1:List UInt8×List UInt8×Int) (s2:Int) (i3:Nat) (s3:List Int):Except ((Character×Bool)) (List Int):=
 (bif (!((zf ((za s1.2.1 43).getD i3 default)).2))then .error ({ Kind:=s2,Group:=s3,Letter:=[76],Colors:=[],Period:=0:Character },false)else .ok (s3++([(zf ((za s1.2.1 43).getD i3 default)).1]:List Int)))
def y2x (a0:(List UInt8)) (s4:List UInt8×List UInt8×Int):Except (Sum ((Character×Bool)) (List UInt8×List UInt8×Int)) (List UInt8×List UInt8×Int):=
 (bif decide (s4.2.2<(s4.1.length:Int))then(bif ((((s4.1.getD ((s4.2.2).toNat) 0).toNat:Int) == 40) && (((s4.1.getD ((IntKind.wrap .i64 ((s4.1.length:Int)-1)).toNat) 0).toNat:Int) == 41))then .error (.inr (s4.1.take ((s4.2.2).toNat),(s4.1.take ((IntKind.wrap .i64 ((s4.1.length:Int)-1)).toNat)).drop ((IntKind.wrap .i64 (s4.2.2+1)).toNat),s4.2.2))else .ok (s4.1,s4.2.1,IntKind.wrap .i64 (s4.2.2+1)))else .error (.inr (s4.1,s4.2.1,s4.2.2)))
def ygk (a0:(List UInt8)) (s4:List UInt8×List UInt8×Int) (i5:Nat) (s5:Int):Except ((Character×Bool)) (Int):=
 (bif (((zn ).getD i5 default) == s4.1)then .ok (i5:Int)else .ok s5)
def yfm (a0:(List UInt8)) (s4:List UInt8×List UInt8×Int) (s5:Int) (i6:Nat) (s6:List Int):Except ((Character×Bool)) (List Int):=
 (bif (!((zf ((za s4.2.1 43).getD i6 default)).2))then .error ({ Kind:=s5,Group:=s6,Letter:=[],Colors:=[],Period:=0:Character },false)else .ok (s6++([(zf ((za s4.2.1 43).getD i6 default)).1]:List Int)))
def zh (a0:(List UInt8)):(Character×Bool):=
 (bif (decide (4<(a0.length:Int)) && (((a0.take a0.length).drop ((IntKind.wrap .i64 ((a0.length:Int)-4)).toNat)) == [43,76,70,108]))then(match y5 (y2t a0) (((a0.length-(0:Int)).toNat)+1) (a0.take ((IntKind.wrap .i64 ((a0.length:Int)-4)).toNat),[],0)with|.error (.inl e)=>e|.error (.inr s1)=>(match yd (y0n a0 s1) (((zn ).length)-1) 1 0 with|.error e=>e|.ok s2=>(bif (s2 == 8)then({ Kind:=s2,Group:=[],Letter:=[76]++s1.2.1,Colors:=[],Period:=0:Character },true)else(bif (s1.2.1 == [])then({ Kind:=s2,Group:=[],Letter:=[76],Colors:=[],Period:=0:Character },decide (0<s2))else(match yd (ykm a0 s1 s2) (((za s1.2.1 43).length)-0) 0 ([]:List Int)with|.error e=>e|.ok s3=>({ Kind:=s2,Group:=s3,Letter:=[76],Colors:=[],Period:=0:Character },decide (0<s2))))))|.ok _=>default)else(match y5 (y2x a0) (((a0.length-(0:Int)).toNat)+1) (a0,[],0)with|.error (.inl e)=>e|.error (.inr s4)=>(match yd (ygk a0 s4) (((zn ).length)-1) 1 0 with|.error e=>e|.ok s5=>(bif (s5 == 8)then({ Kind:=s5,Group:=[],Letter:=[]++s4.2.1,Colors:=[],Period:=0:Character },true)else(bif (s4.2.1 == [])then({ Kind:=s5,Group:=[],Letter:=[],Colors:=[],Period:=0:Character },decide (0<s5))else(match yd (yfm a0 s4 s5) (((za s4.2.1 43).length)-0) 0 ([]:List Int)with|.error e=>e|.ok s6=>({ Kind:=s5,Group:=s6,Letter:=[],Colors:=[],Period:=0:Character },decide (0<s5))))))|.ok _=>default))
namespace N249
theorem DD:DOk Tryz.prog (Go.Ab.DD [(206,dP D_zn),(90,dP D_za),(93,dP D_zf)]):=ya yky.e <| ya yeh.e <| ya ycm.e <| ye _
theorem dn:type_of% (And.intro @D_zn.eq_1 <| And.intro @D_za.eq_1 <| @D_zf.eq_1):=by and_intros<;>intros<;>rfl
theorem gr {p:Prop} (h:p:=by(grind [y3,y4b]);first|done|fail):p:=h
theorem o0 {p:Prop} (h:p:=by(first|(exact y6w _ _ (by omega) (of_decide_eq_true (by assumption)) (by omega) hb)|(refine⟨⟨by omega,by omega⟩,by omega,y4b _ _ (by first|omega|(simp only[List.length_drop,List.length_take];omega))⟩)|(have h9:=y3 (List.drop (IntKind.wrap .i64 (s1.2.2+1)).toNat (List.take (IntKind.wrap .i64 ((s1.1.length:Int)-1)).toNat s1.1)) (by simp only[List.length_drop,List.length_take];omega);first|omega|(and_intros<;>omega))|(have h9:=y3 s1.2.1 (by omega);first|omega|(and_intros<;>omega))|(have h9:=y3 (List.drop (IntKind.wrap .i64 (s4.2.2+1)).toNat (List.take (IntKind.wrap .i64 ((s4.1.length:Int)-1)).toNat s4.1)) (by simp only[List.length_drop,List.length_take];omega);first|omega|(and_intros<;>omega))|(have h9:=y3 s4.2.1 (by omega);first|omega|(and_intros<;>omega))|(simp only[List.length_drop,List.length_take];omega)|(and_intros<;>first|omega|(simp only[List.length_drop,List.length_take];omega)));first|done|fail):p:=h
theorem o2 {p:Prop} (h:p:=by(first|(and_intros<;>first|omega|(rw[IntKind.wrap_i64];omega)|(intro i hi;exact y2e _ _ i hi)|(intro i hi;rw[y2e _ _ i hi];exact y9 _)|(simp only[List.length_append,List.length_singleton];(first|done|fail))|(rw[IntKind.wrap_i64];first|(have h9:=y3 (List.drop (IntKind.wrap .i64 (s1.2.2+1)).toNat (List.take (IntKind.wrap .i64 ((s1.1.length:Int)-1)).toNat s1.1)) (by simp only[List.length_drop,List.length_take];omega);first|omega|(and_intros<;>omega))|(have h9:=y3 s1.2.1 (by omega);first|omega|(and_intros<;>omega))|(have h9:=y3 (List.drop (IntKind.wrap .i64 (s4.2.2+1)).toNat (List.take (IntKind.wrap .i64 ((s4.1.length:Int)-1)).toNat s4.1)) (by simp only[List.length_drop,List.length_take];omega);first|omega|(and_intros<;>omega))|(have h9:=y3 s4.2.1 (by omega);first|omega|(and_intros<;>omega)))|(simp;(first|done|fail))));first|done|fail):p:=h
set_option maxHeartbeats 2000000 in
set_option maxRecDepth 20000 in
theorem den (a0:(List UInt8)) (hb0:a0.length<1099511627776) (hp0:a0.length<=1048576):Den Tryz.prog 249 [.str a0] (.tup [.agg (ymb ((zh a0).1)),.bool ((zh a0).2)]):=by
 generalize hR:zh a0=r;unfold zh at hR;refine di Tryz.func249 Tryz.ntmps249 Tryz.results249 ?_;intro c hL hc hk;obtain⟨hL0,_⟩:=hL;have hw0:a0.length<9223372036854775808:=Nat.lt_succ_of_le hL0;clear hL0;simp only[pars,Nat.zero_add];have hk8:zn.length=9:=rfl;iterate 3 refine rS ?_
 refine AWP.cond rfl (fun hb => ?_) (fun hb => ?_)
 ·replace hR:=ct hR
  iterate 4 refine rS ?_
  refine AWP.block ?_;generalize hz1:y5 (y2t a0) (((a0.length-(0:Int)).toNat)+1) (a0.take ((IntKind.wrap .i64 ((a0.length:Int)-4)).toNat),[],0)=z1 at hR;refine AWP.whileW (y2t a0) (fun s1=>⟨[(0,.str s1.1),(2,.ptr 0 0),(4,.ptr 1 0),(5,.str s1.2.1),(6,.int .i64 s1.2.2)],[.box [.int .i64 0,.nils,.str [],.str [],.int .i64 0],.box [.int .i64 0,.nils,.str [76],.str [],.int .i64 0]]⟩) (fun s1=>0<=s1.2.2/\s1.2.2<=s1.1.length/\s1.1.length<=a0.length/\s1.2.1.length<=1048576) (fun s1=>(a0.length-s1.2.2).toNat) (((a0.length-(0:Int)).toNat)+1) (a0.take ((IntKind.wrap .i64 ((a0.length:Int)-4)).toNat),[],0) [0,1] hz1 m0 wt sm ?_;clear hz1;intro s1 k1 hW1 hm1 hz1;simp only[y2t]at hz1;refine rS ?_;refine AWP.cond rfl (fun hb => ?_) (fun hb => ?_)
  ·simp only[hb,cond_true]at hz1
   refine rS ?_;refine AWP.cond rfl (fun hb => ?_) (fun hb => ?_)
   ·simp only[hb,cond_true]at hz1
    iterate 2 refine rS ?_
    refine AWP.exit ?_;refine yof rfl ?_;refine yb ?_;subst hz1;dsimp only at hR;iterate 2 refine rS ?_
    refine AWP.block ?_;generalize hz2:yd (y0n a0 (s1.1.take ((s1.2.2).toNat),(s1.1.take ((IntKind.wrap .i64 ((s1.1.length:Int)-1)).toNat)).drop ((IntKind.wrap .i64 (s1.2.2+1)).toNat),s1.2.2)) (((zn ).length)-1) 1 0=z2 at hR;refine AWP.range (y0n a0 (s1.1.take ((s1.2.2).toNat),(s1.1.take ((IntKind.wrap .i64 ((s1.1.length:Int)-1)).toNat)).drop ((IntKind.wrap .i64 (s1.2.2+1)).toNat),s1.2.2)) (fun i2 s2=>⟨[(0,.str (s1.1.take ((s1.2.2).toNat))),(2,.ptr 0 0),(4,.ptr 1 0),(5,.str ((s1.1.take ((IntKind.wrap .i64 ((s1.1.length:Int)-1)).toNat)).drop ((IntKind.wrap .i64 (s1.2.2+1)).toNat))),(7,.ref 2 1 0 ((zn ).length)),(8,.int .i64 (i2:Int))],[.box [.int .i64 0,.nils,.str [],.str [],.int .i64 0],.box [.int .i64 s2,.nils,.str [76],.str [],.int .i64 0],.arr 9 1 (zn ).length (fun j=>eS ((zn ).getD j default))]⟩) (fun i2 s2=>1<=i2) (((zn ).length)) 1 0 [0,1,2] hz2 ot wt sm ?_;clear hz2;intro i2 s2 hi2 hW2 hz2;refine rS ?_;refine AWP.cond rfl (fun hb => ?_) (fun hb => ?_)
    ·have hlt2:i2<((zn ).length):=ot
     rw[yg hlt2]at hz2;simp only[y0n]at hz2;refine rS ?_;refine AWP.cond rfl (fun hb => ?_) (fun hb => ?_)
     ·simp only[hb,cond_true]at hz2
      iterate 2 refine rS ?_
      exact⟨_,[0,1,2],hlt2,wt,hz2,sm⟩
     ·simp only[hb,cond_false]at hz2
      refine rS ?_;exact⟨_,[0,1,2],hlt2,wt,hz2,sm⟩
    ·obtain rfl:i2=((zn ).length):=ot
     rw[yh (Nat.le_refl _)]at hz2;subst hz2;dsimp only at hR;refine AWP.exit ?_;refine yb ?_;refine rS ?_;refine AWP.cond rfl (fun hb => ?_) (fun hb => ?_)
     ·replace hR:=ct hR
      iterate 2 refine rS ?_
      refine AWP.ret ?_;subst hR;exact es
     ·replace hR:=cf hR
      refine rS ?_;refine AWP.cond rfl (fun hb => ?_) (fun hb => ?_)
      ·replace hR:=ct hR
       refine AWP.seq ?_;refine AWP.regP mixed G_ok DD hc 5 [0,1,2,3] (.alt 4 [] [1,2,3] .leaf .stop) (by kernel_rfl) (by kernel_rfl) (by kernel_rfl) (fun K hK => ?_);simp only[ymg,runN,runP,yrb,nthO,ea,absV,absVL,cput,gv,sv,dn,reduceCtorEq,reduceIte,Nat.reduceBEq,Nat.reduceAdd,Nat.reduceEqDiff,Nat.reduceLT,Nat.reduceLeDiff,Nat.reduceMul,Nat.reduceSub,BEq.rfl,beq_self_eq_true,Int.reduceToNat];repeat' apply And.intro
       all_goals first|refine hK _ ?_|exact ot
       all_goals clear hK K
       refine AWP.ret ?_;subst hR;exact es
      ·replace hR:=cf hR
       iterate 2 refine rS ?_
       refine AWP.block ?_;refine AWP.nilB 1 1 2 1 (fun _=>[]) rfl rfl ?_;try simp only[ea,absV,absVL,cput,gv,sv,dn,reduceCtorEq,reduceIte,Nat.reduceBEq,Nat.reduceAdd,Nat.reduceEqDiff,Nat.reduceLT,Nat.reduceLeDiff,Nat.reduceMul,Nat.reduceSub,BEq.rfl,beq_self_eq_true,Int.reduceToNat];generalize hz3:yd (ykm a0 (s1.1.take ((s1.2.2).toNat),(s1.1.take ((IntKind.wrap .i64 ((s1.1.length:Int)-1)).toNat)).drop ((IntKind.wrap .i64 (s1.2.2+1)).toNat),s1.2.2) s2) (((za ((s1.1.take ((IntKind.wrap .i64 ((s1.1.length:Int)-1)).toNat)).drop ((IntKind.wrap .i64 (s1.2.2+1)).toNat)) 43).length)-0) 0 ([]:List Int)=z3 at hR;refine AWP.range (ykm a0 (s1.1.take ((s1.2.2).toNat),(s1.1.take ((IntKind.wrap .i64 ((s1.1.length:Int)-1)).toNat)).drop ((IntKind.wrap .i64 (s1.2.2+1)).toNat),s1.2.2) s2) (fun i3 s3=>⟨[(2,.ptr 0 0),(4,.ptr 1 0),(9,.ref 3 1 0 ((za ((s1.1.take ((IntKind.wrap .i64 ((s1.1.length:Int)-1)).toNat)).drop ((IntKind.wrap .i64 (s1.2.2+1)).toNat)) 43).length)),(10,.int .i64 (i3:Int))],[.box [.int .i64 0,.nils,.str [],.str [],.int .i64 0],.box [.int .i64 s2,.ref 2 1 0 s3.length,.str [76],.str [],.int .i64 0],.arr 2 1 s3.length (fun j=>yt (s3.getD j default)),.arr 9 1 (za ((s1.1.take ((IntKind.wrap .i64 ((s1.1.length:Int)-1)).toNat)).drop ((IntKind.wrap .i64 (s1.2.2+1)).toNat)) 43).length (fun j=>eS ((za ((s1.1.take ((IntKind.wrap .i64 ((s1.1.length:Int)-1)).toNat)).drop ((IntKind.wrap .i64 (s1.2.2+1)).toNat)) 43).getD j default))]⟩) (fun i3 s3=>s3.length<=([]:List Int).length+1 * i3/\s3.length<=i3) (((za ((s1.1.take ((IntKind.wrap .i64 ((s1.1.length:Int)-1)).toNat)).drop ((IntKind.wrap .i64 (s1.2.2+1)).toNat)) 43).length)) 0 ([]:List Int) [0,1,4,3] hz3 ot wt sm ?_;clear hz3;intro i3 s3 hi3 hW3 hz3;refine rS ?_;refine AWP.cond rfl (fun hb => ?_) (fun hb => ?_)
       ·have hlt3:i3<((za ((s1.1.take ((IntKind.wrap .i64 ((s1.1.length:Int)-1)).toNat)).drop ((IntKind.wrap .i64 (s1.2.2+1)).toNat)) 43).length):=ot
        rw[yg hlt3]at hz3;simp only[ykm]at hz3;iterate 2 refine rS ?_
        refine AWP.cond rfl (fun hb => ?_) (fun hb => ?_)
        ·simp only[hb,cond_true]at hz3
         refine rS ?_;refine AWP.ret ?_;subst hz3;dsimp only at hR;subst hR;exact es
        ·simp only[hb,cond_false]at hz3
         iterate 2 refine rS ?_
         exact⟨_,[0,1,5,3],hlt3,by(simp only[List.length_append,List.length_singleton];omega),hz3,sm⟩
       ·obtain rfl:i3=((za ((s1.1.take ((IntKind.wrap .i64 ((s1.1.length:Int)-1)).toNat)).drop ((IntKind.wrap .i64 (s1.2.2+1)).toNat)) 43).length):=ot
        rw[yh (Nat.le_refl _)]at hz3;subst hz3;dsimp only at hR;refine AWP.exit ?_;refine yb ?_;refine AWP.seq ?_;refine AWP.regP mixed G_ok DD hc 5 [0,1,2,3] (.alt 4 [] [1,2,3] .leaf .stop) (by kernel_rfl) (by kernel_rfl) (by kernel_rfl) (fun K hK => ?_);simp only[ymg,runN,runP,yrb,nthO,ea,absV,absVL,cput,gv,sv,dn,reduceCtorEq,reduceIte,Nat.reduceBEq,Nat.reduceAdd,Nat.reduceEqDiff,Nat.reduceLT,Nat.reduceLeDiff,Nat.reduceMul,Nat.reduceSub,BEq.rfl,beq_self_eq_true,Int.reduceToNat];repeat' apply And.intro
        all_goals first|refine hK _ ?_|exact ot
        all_goals clear hK K
        refine AWP.ret ?_;subst hR;exact es
   ·simp only[hb,cond_false]at hz1
    refine rS ?_;exact⟨_,[0,1],ms,wt,hz1,sm⟩
  ·simp only[hb,cond_false]at hz1
   refine AWP.exit ?_;refine yb ?_;subst hz1;dsimp only at hR;iterate 2 refine rS ?_
   refine AWP.block ?_;generalize hz2:yd (y0n a0 (s1.1,s1.2.1,s1.2.2)) (((zn ).length)-1) 1 0=z2 at hR;refine AWP.range (y0n a0 (s1.1,s1.2.1,s1.2.2)) (fun i2 s2=>⟨[(0,.str s1.1),(2,.ptr 0 0),(4,.ptr 1 0),(5,.str s1.2.1),(7,.ref 2 1 0 ((zn ).length)),(8,.int .i64 (i2:Int))],[.box [.int .i64 0,.nils,.str [],.str [],.int .i64 0],.box [.int .i64 s2,.nils,.str [76],.str [],.int .i64 0],.arr 9 1 (zn ).length (fun j=>eS ((zn ).getD j default))]⟩) (fun i2 s2=>1<=i2) (((zn ).length)) 1 0 [0,1,2] hz2 ot wt sm ?_;clear hz2;intro i2 s2 hi2 hW2 hz2;refine rS ?_;refine AWP.cond rfl (fun hb => ?_) (fun hb => ?_)
   ·have hlt2:i2<((zn ).length):=ot
    rw[yg hlt2]at hz2;simp only[y0n]at hz2;refine rS ?_;refine AWP.cond rfl (fun hb => ?_) (fun hb => ?_)
    ·simp only[hb,cond_true]at hz2
     iterate 2 refine rS ?_
     exact⟨_,[0,1,2],hlt2,wt,hz2,sm⟩
    ·simp only[hb,cond_false]at hz2
     refine rS ?_;exact⟨_,[0,1,2],hlt2,wt,hz2,sm⟩
   ·obtain rfl:i2=((zn ).length):=ot
    rw[yh (Nat.le_refl _)]at hz2;subst hz2;dsimp only at hR;refine AWP.exit ?_;refine yb ?_;refine rS ?_;refine AWP.cond rfl (fun hb => ?_) (fun hb => ?_)
    ·replace hR:=ct hR
     iterate 2 refine rS ?_
     refine AWP.ret ?_;subst hR;exact es
    ·replace hR:=cf hR
     refine rS ?_;refine AWP.cond rfl (fun hb => ?_) (fun hb => ?_)
     ·replace hR:=ct hR
      refine AWP.seq ?_;refine AWP.regP mixed G_ok DD hc 5 [0,1,2,3] (.alt 4 [] [1,2,3] .leaf .stop) (by kernel_rfl) (by kernel_rfl) (by kernel_rfl) (fun K hK => ?_);simp only[ymg,runN,runP,yrb,nthO,ea,absV,absVL,cput,gv,sv,dn,reduceCtorEq,reduceIte,Nat.reduceBEq,Nat.reduceAdd,Nat.reduceEqDiff,Nat.reduceLT,Nat.reduceLeDiff,Nat.reduceMul,Nat.reduceSub,BEq.rfl,beq_self_eq_true,Int.reduceToNat];repeat' apply And.intro
      all_goals first|refine hK _ ?_|exact ot
      all_goals clear hK K
      refine AWP.ret ?_;subst hR;exact es
     ·replace hR:=cf hR
      iterate 2 refine rS ?_
      refine AWP.block ?_;refine AWP.nilB 1 1 2 1 (fun _=>[]) rfl rfl ?_;try simp only[ea,absV,absVL,cput,gv,sv,dn,reduceCtorEq,reduceIte,Nat.reduceBEq,Nat.reduceAdd,Nat.reduceEqDiff,Nat.reduceLT,Nat.reduceLeDiff,Nat.reduceMul,Nat.reduceSub,BEq.rfl,beq_self_eq_true,Int.reduceToNat];generalize hz3:yd (ykm a0 (s1.1,s1.2.1,s1.2.2) s2) (((za s1.2.1 43).length)-0) 0 ([]:List Int)=z3 at hR;refine AWP.range (ykm a0 (s1.1,s1.2.1,s1.2.2) s2) (fun i3 s3=>⟨[(2,.ptr 0 0),(4,.ptr 1 0),(9,.ref 3 1 0 ((za s1.2.1 43).length)),(10,.int .i64 (i3:Int))],[.box [.int .i64 0,.nils,.str [],.str [],.int .i64 0],.box [.int .i64 s2,.ref 2 1 0 s3.length,.str [76],.str [],.int .i64 0],.arr 2 1 s3.length (fun j=>yt (s3.getD j default)),.arr 9 1 (za s1.2.1 43).length (fun j=>eS ((za s1.2.1 43).getD j default))]⟩) (fun i3 s3=>s3.length<=([]:List Int).length+1 * i3/\s3.length<=i3) (((za s1.2.1 43).length)) 0 ([]:List Int) [0,1,4,3] hz3 ot wt sm ?_;clear hz3;intro i3 s3 hi3 hW3 hz3;refine rS ?_;refine AWP.cond rfl (fun hb => ?_) (fun hb => ?_)
      ·have hlt3:i3<((za s1.2.1 43).length):=ot
       rw[yg hlt3]at hz3;simp only[ykm]at hz3;iterate 2 refine rS ?_
       refine AWP.cond rfl (fun hb => ?_) (fun hb => ?_)
       ·simp only[hb,cond_true]at hz3
        refine rS ?_;refine AWP.ret ?_;subst hz3;dsimp only at hR;subst hR;exact es
       ·simp only[hb,cond_false]at hz3
        iterate 2 refine rS ?_
        exact⟨_,[0,1,5,3],hlt3,by(simp only[List.length_append,List.length_singleton];omega),hz3,sm⟩
      ·obtain rfl:i3=((za s1.2.1 43).length):=ot
       rw[yh (Nat.le_refl _)]at hz3;subst hz3;dsimp only at hR;refine AWP.exit ?_;refine yb ?_;refine AWP.seq ?_;refine AWP.regP mixed G_ok DD hc 5 [0,1,2,3] (.alt 4 [] [1,2,3] .leaf .stop) (by kernel_rfl) (by kernel_rfl) (by kernel_rfl) (fun K hK => ?_);simp only[ymg,runN,runP,yrb,nthO,ea,absV,absVL,cput,gv,sv,dn,reduceCtorEq,reduceIte,Nat.reduceBEq,Nat.reduceAdd,Nat.reduceEqDiff,Nat.reduceLT,Nat.reduceLeDiff,Nat.reduceMul,Nat.reduceSub,BEq.rfl,beq_self_eq_true,Int.reduceToNat];repeat' apply And.intro
       all_goals first|refine hK _ ?_|exact ot
       all_goals clear hK K
       refine AWP.ret ?_;subst hR;exact es
 ·replace hR:=cf hR
  iterate 2 refine rS ?_
  refine AWP.block ?_;generalize hz4:y5 (y2x a0) (((a0.length-(0:Int)).toNat)+1) (a0,[],0)=z4 at hR;refine AWP.whileW (y2x a0) (fun s4=>⟨[(0,.str s4.1),(2,.ptr 0 0),(4,.ptr 1 0),(5,.str s4.2.1),(6,.int .i64 s4.2.2)],[.box [.int .i64 0,.nils,.str [],.str [],.int .i64 0],.box [.int .i64 0,.nils,.str [],.str [],.int .i64 0]]⟩) (fun s4=>0<=s4.2.2/\s4.2.2<=s4.1.length/\s4.1.length<=a0.length/\s4.2.1.length<=1048576) (fun s4=>(a0.length-s4.2.2).toNat) (((a0.length-(0:Int)).toNat)+1) (a0,[],0) [0,1] hz4 m0 wt sm ?_;clear hz4;intro s4 k4 hW4 hm4 hz4;simp only[y2x]at hz4;refine rS ?_;refine AWP.cond rfl (fun hb => ?_) (fun hb => ?_)
  ·simp only[hb,cond_true]at hz4
   refine rS ?_;refine AWP.cond rfl (fun hb => ?_) (fun hb => ?_)
   ·simp only[hb,cond_true]at hz4
    iterate 2 refine rS ?_
    refine AWP.exit ?_;refine yof rfl ?_;refine yb ?_;subst hz4;dsimp only at hR;iterate 2 refine rS ?_
    refine AWP.block ?_;generalize hz5:yd (ygk a0 (s4.1.take ((s4.2.2).toNat),(s4.1.take ((IntKind.wrap .i64 ((s4.1.length:Int)-1)).toNat)).drop ((IntKind.wrap .i64 (s4.2.2+1)).toNat),s4.2.2)) (((zn ).length)-1) 1 0=z5 at hR;refine AWP.range (ygk a0 (s4.1.take ((s4.2.2).toNat),(s4.1.take ((IntKind.wrap .i64 ((s4.1.length:Int)-1)).toNat)).drop ((IntKind.wrap .i64 (s4.2.2+1)).toNat),s4.2.2)) (fun i5 s5=>⟨[(0,.str (s4.1.take ((s4.2.2).toNat))),(2,.ptr 0 0),(4,.ptr 1 0),(5,.str ((s4.1.take ((IntKind.wrap .i64 ((s4.1.length:Int)-1)).toNat)).drop ((IntKind.wrap .i64 (s4.2.2+1)).toNat))),(7,.ref 2 1 0 ((zn ).length)),(8,.int .i64 (i5:Int))],[.box [.int .i64 0,.nils,.str [],.str [],.int .i64 0],.box [.int .i64 s5,.nils,.str [],.str [],.int .i64 0],.arr 9 1 (zn ).length (fun j=>eS ((zn ).getD j default))]⟩) (fun i5 s5=>1<=i5) (((zn ).length)) 1 0 [0,1,2] hz5 ot wt sm ?_;clear hz5;intro i5 s5 hi5 hW5 hz5;refine rS ?_;refine AWP.cond rfl (fun hb => ?_) (fun hb => ?_)
    ·have hlt5:i5<((zn ).length):=ot
     rw[yg hlt5]at hz5;simp only[ygk]at hz5;refine rS ?_;refine AWP.cond rfl (fun hb => ?_) (fun hb => ?_)
     ·simp only[hb,cond_true]at hz5
      iterate 2 refine rS ?_
      exact⟨_,[0,1,2],hlt5,wt,hz5,sm⟩
     ·simp only[hb,cond_false]at hz5
      refine rS ?_;exact⟨_,[0,1,2],hlt5,wt,hz5,sm⟩
    ·obtain rfl:i5=((zn ).length):=ot
     rw[yh (Nat.le_refl _)]at hz5;subst hz5;dsimp only at hR;refine AWP.exit ?_;refine yb ?_;refine rS ?_;refine AWP.cond rfl (fun hb => ?_) (fun hb => ?_)
     ·replace hR:=ct hR
      iterate 2 refine rS ?_
      refine AWP.ret ?_;subst hR;exact es
     ·replace hR:=cf hR
      refine rS ?_;refine AWP.cond rfl (fun hb => ?_) (fun hb => ?_)
      ·replace hR:=ct hR
       refine AWP.seq ?_;refine AWP.regP mixed G_ok DD hc 5 [0,1,2,3] (.alt 4 [] [1,2,3] .leaf .stop) (by kernel_rfl) (by kernel_rfl) (by kernel_rfl) (fun K hK => ?_);simp only[ymg,runN,runP,yrb,nthO,ea,absV,absVL,cput,gv,sv,dn,reduceCtorEq,reduceIte,Nat.reduceBEq,Nat.reduceAdd,Nat.reduceEqDiff,Nat.reduceLT,Nat.reduceLeDiff,Nat.reduceMul,Nat.reduceSub,BEq.rfl,beq_self_eq_true,Int.reduceToNat];repeat' apply And.intro
       all_goals first|refine hK _ ?_|exact ot
       all_goals clear hK K
       refine AWP.ret ?_;subst hR;exact es
      ·replace hR:=cf hR
       iterate 2 refine rS ?_
       refine AWP.block ?_;refine AWP.nilB 1 1 2 1 (fun _=>[]) rfl rfl ?_;try simp only[ea,absV,absVL,cput,gv,sv,dn,reduceCtorEq,reduceIte,Nat.reduceBEq,Nat.reduceAdd,Nat.reduceEqDiff,Nat.reduceLT,Nat.reduceLeDiff,Nat.reduceMul,Nat.reduceSub,BEq.rfl,beq_self_eq_true,Int.reduceToNat];generalize hz6:yd (yfm a0 (s4.1.take ((s4.2.2).toNat),(s4.1.take ((IntKind.wrap .i64 ((s4.1.length:Int)-1)).toNat)).drop ((IntKind.wrap .i64 (s4.2.2+1)).toNat),s4.2.2) s5) (((za ((s4.1.take ((IntKind.wrap .i64 ((s4.1.length:Int)-1)).toNat)).drop ((IntKind.wrap .i64 (s4.2.2+1)).toNat)) 43).length)-0) 0 ([]:List Int)=z6 at hR;refine AWP.range (yfm a0 (s4.1.take ((s4.2.2).toNat),(s4.1.take ((IntKind.wrap .i64 ((s4.1.length:Int)-1)).toNat)).drop ((IntKind.wrap .i64 (s4.2.2+1)).toNat),s4.2.2) s5) (fun i6 s6=>⟨[(2,.ptr 0 0),(4,.ptr 1 0),(9,.ref 3 1 0 ((za ((s4.1.take ((IntKind.wrap .i64 ((s4.1.length:Int)-1)).toNat)).drop ((IntKind.wrap .i64 (s4.2.2+1)).toNat)) 43).length)),(10,.int .i64 (i6:Int))],[.box [.int .i64 0,.nils,.str [],.str [],.int .i64 0],.box [.int .i64 s5,.ref 2 1 0 s6.length,.str [],.str [],.int .i64 0],.arr 2 1 s6.length (fun j=>yt (s6.getD j default)),.arr 9 1 (za ((s4.1.take ((IntKind.wrap .i64 ((s4.1.length:Int)-1)).toNat)).drop ((IntKind.wrap .i64 (s4.2.2+1)).toNat)) 43).length (fun j=>eS ((za ((s4.1.take ((IntKind.wrap .i64 ((s4.1.length:Int)-1)).toNat)).drop ((IntKind.wrap .i64 (s4.2.2+1)).toNat)) 43).getD j default))]⟩) (fun i6 s6=>s6.length<=([]:List Int).length+1 * i6/\s6.length<=i6) (((za ((s4.1.take ((IntKind.wrap .i64 ((s4.1.length:Int)-1)).toNat)).drop ((IntKind.wrap .i64 (s4.2.2+1)).toNat)) 43).length)) 0 ([]:List Int) [0,1,4,3] hz6 ot wt sm ?_;clear hz6;intro i6 s6 hi6 hW6 hz6;refine rS ?_;refine AWP.cond rfl (fun hb => ?_) (fun hb => ?_)
       ·have hlt6:i6<((za ((s4.1.take ((IntKind.wrap .i64 ((s4.1.length:Int)-1)).toNat)).drop ((IntKind.wrap .i64 (s4.2.2+1)).toNat)) 43).length):=ot
        rw[yg hlt6]at hz6;simp only[yfm]at hz6;iterate 2 refine rS ?_
        refine AWP.cond rfl (fun hb => ?_) (fun hb => ?_)
        ·simp only[hb,cond_true]at hz6
         refine rS ?_;refine AWP.ret ?_;subst hz6;dsimp only at hR;subst hR;exact es
        ·simp only[hb,cond_false]at hz6
         iterate 2 refine rS ?_
         exact⟨_,[0,1,5,3],hlt6,by(simp only[List.length_append,List.length_singleton];omega),hz6,sm⟩
       ·obtain rfl:i6=((za ((s4.1.take ((IntKind.wrap .i64 ((s4.1.length:Int)-1)).toNat)).drop ((IntKind.wrap .i64 (s4.2.2+1)).toNat)) 43).length):=ot
        rw[yh (Nat.le_refl _)]at hz6;subst hz6;dsimp only at hR;refine AWP.exit ?_;refine yb ?_;refine AWP.seq ?_;refine AWP.regP mixed G_ok DD hc 5 [0,1,2,3] (.alt 4 [] [1,2,3] .leaf .stop) (by kernel_rfl) (by kernel_rfl) (by kernel_rfl) (fun K hK => ?_);simp only[ymg,runN,runP,yrb,nthO,ea,absV,absVL,cput,gv,sv,dn,reduceCtorEq,reduceIte,Nat.reduceBEq,Nat.reduceAdd,Nat.reduceEqDiff,Nat.reduceLT,Nat.reduceLeDiff,Nat.reduceMul,Nat.reduceSub,BEq.rfl,beq_self_eq_true,Int.reduceToNat];repeat' apply And.intro
        all_goals first|refine hK _ ?_|exact ot
        all_goals clear hK K
        refine AWP.ret ?_;subst hR;exact es
   ·simp only[hb,cond_false]at hz4
    refine rS ?_;exact⟨_,[0,1],ms,wt,hz4,sm⟩
  ·simp only[hb,cond_false]at hz4
   refine AWP.exit ?_;refine yb ?_;subst hz4;dsimp only at hR;iterate 2 refine rS ?_
   refine AWP.block ?_;generalize hz5:yd (ygk a0 (s4.1,s4.2.1,s4.2.2)) (((zn ).length)-1) 1 0=z5 at hR;refine AWP.range (ygk a0 (s4.1,s4.2.1,s4.2.2)) (fun i5 s5=>⟨[(0,.str s4.1),(2,.ptr 0 0),(4,.ptr 1 0),(5,.str s4.2.1),(7,.ref 2 1 0 ((zn ).length)),(8,.int .i64 (i5:Int))],[.box [.int .i64 0,.nils,.str [],.str [],.int .i64 0],.box [.int .i64 s5,.nils,.str [],.str [],.int .i64 0],.arr 9 1 (zn ).length (fun j=>eS ((zn ).getD j default))]⟩) (fun i5 s5=>1<=i5) (((zn ).length)) 1 0 [0,1,2] hz5 ot wt sm ?_;clear hz5;intro i5 s5 hi5 hW5 hz5;refine rS ?_;refine AWP.cond rfl (fun hb => ?_) (fun hb => ?_)
   ·have hlt5:i5<((zn ).length):=ot
    rw[yg hlt5]at hz5;simp only[ygk]at hz5;refine rS ?_;refine AWP.cond rfl (fun hb => ?_) (fun hb => ?_)
    ·simp only[hb,cond_true]at hz5
     iterate 2 refine rS ?_
     exact⟨_,[0,1,2],hlt5,wt,hz5,sm⟩
    ·simp only[hb,cond_false]at hz5
     refine rS ?_;exact⟨_,[0,1,2],hlt5,wt,hz5,sm⟩
   ·obtain rfl:i5=((zn ).length):=ot
    rw[yh (Nat.le_refl _)]at hz5;subst hz5;dsimp only at hR;refine AWP.exit ?_;refine yb ?_;refine rS ?_;refine AWP.cond rfl (fun hb => ?_) (fun hb => ?_)
    ·replace hR:=ct hR
     iterate 2 refine rS ?_
     refine AWP.ret ?_;subst hR;exact es
    ·replace hR:=cf hR
     refine rS ?_;refine AWP.cond rfl (fun hb => ?_) (fun hb => ?_)
     ·replace hR:=ct hR
      refine AWP.seq ?_;refine AWP.regP mixed G_ok DD hc 5 [0,1,2,3] (.alt 4 [] [1,2,3] .leaf .stop) (by kernel_rfl) (by kernel_rfl) (by kernel_rfl) (fun K hK => ?_);simp only[ymg,runN,runP,yrb,nthO,ea,absV,absVL,cput,gv,sv,dn,reduceCtorEq,reduceIte,Nat.reduceBEq,Nat.reduceAdd,Nat.reduceEqDiff,Nat.reduceLT,Nat.reduceLeDiff,Nat.reduceMul,Nat.reduceSub,BEq.rfl,beq_self_eq_true,Int.reduceToNat];repeat' apply And.intro
      all_goals first|refine hK _ ?_|exact ot
      all_goals clear hK K
      refine AWP.ret ?_;subst hR;exact es
     ·replace hR:=cf hR
      iterate 2 refine rS ?_
      refine AWP.block ?_;refine AWP.nilB 1 1 2 1 (fun _=>[]) rfl rfl ?_;try simp only[ea,absV,absVL,cput,gv,sv,dn,reduceCtorEq,reduceIte,Nat.reduceBEq,Nat.reduceAdd,Nat.reduceEqDiff,Nat.reduceLT,Nat.reduceLeDiff,Nat.reduceMul,Nat.reduceSub,BEq.rfl,beq_self_eq_true,Int.reduceToNat];generalize hz6:yd (yfm a0 (s4.1,s4.2.1,s4.2.2) s5) (((za s4.2.1 43).length)-0) 0 ([]:List Int)=z6 at hR;refine AWP.range (yfm a0 (s4.1,s4.2.1,s4.2.2) s5) (fun i6 s6=>⟨[(2,.ptr 0 0),(4,.ptr 1 0),(9,.ref 3 1 0 ((za s4.2.1 43).length)),(10,.int .i64 (i6:Int))],[.box [.int .i64 0,.nils,.str [],.str [],.int .i64 0],.box [.int .i64 s5,.ref 2 1 0 s6.length,.str [],.str [],.int .i64 0],.arr 2 1 s6.length (fun j=>yt (s6.getD j default)),.arr 9 1 (za s4.2.1 43).length (fun j=>eS ((za s4.2.1 43).getD j default))]⟩) (fun i6 s6=>s6.length<=([]:List Int).length+1 * i6/\s6.length<=i6) (((za s4.2.1 43).length)) 0 ([]:List Int) [0,1,4,3] hz6 ot wt sm ?_;clear hz6;intro i6 s6 hi6 hW6 hz6;refine rS ?_;refine AWP.cond rfl (fun hb => ?_) (fun hb => ?_)
      ·have hlt6:i6<((za s4.2.1 43).length):=ot
       rw[yg hlt6]at hz6;simp only[yfm]at hz6;iterate 2 refine rS ?_
       refine AWP.cond rfl (fun hb => ?_) (fun hb => ?_)
       ·simp only[hb,cond_true]at hz6
        refine rS ?_;refine AWP.ret ?_;subst hz6;dsimp only at hR;subst hR;exact es
       ·simp only[hb,cond_false]at hz6
        iterate 2 refine rS ?_
        exact⟨_,[0,1,5,3],hlt6,by(simp only[List.length_append,List.length_singleton];omega),hz6,sm⟩
      ·obtain rfl:i6=((za s4.2.1 43).length):=ot
       rw[yh (Nat.le_refl _)]at hz6;subst hz6;dsimp only at hR;refine AWP.exit ?_;refine yb ?_;refine AWP.seq ?_;refine AWP.regP mixed G_ok DD hc 5 [0,1,2,3] (.alt 4 [] [1,2,3] .leaf .stop) (by kernel_rfl) (by kernel_rfl) (by kernel_rfl) (fun K hK => ?_);simp only[ymg,runN,runP,yrb,nthO,ea,absV,absVL,cput,gv,sv,dn,reduceCtorEq,reduceIte,Nat.reduceBEq,Nat.reduceAdd,Nat.reduceEqDiff,Nat.reduceLT,Nat.reduceLeDiff,Nat.reduceMul,Nat.reduceSub,BEq.rfl,beq_self_eq_true,Int.reduceToNat];repeat' apply And.intro
       all_goals first|refine hK _ ?_|exact ot
       all_goals clear hK K
       refine AWP.ret ?_;subst hR;exact es
end N249
def D_zh : DF
 | [x0]=>some (.tup [.agg (ymb ((zh (rdS x0)).1)),.bool ((zh (rdS x0)).2)],false,[wS x0,(rdS x0).length<1099511627776,(rdS x0).length<=1048576])
 | _=>none
theorem yn7:OkD Tryz.prog 249 D_zh:=by unfold D_zh;exact dk N249.den
end Go.Ab
