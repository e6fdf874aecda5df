/- A part of a proof: walks of functions and lemmas of our own. No conditions. -/
import Derived.Test.YtbgiihoaldolfaaGreatCAl
import Derived.Test.YtbgiihoaldolfaaGreatCAo
import Derived.Test.YtbgiihoaldolfaaGreatCAp
import Derived.Test.YtbgiihoaldolfaaGreatCAq
set_option linter.unusedSectionVars false
set_option linter.unusedVariables false
set_option linter.unusedSimpArgs false
set_option maxHeartbeats 1000000
namespace Go.Ab
open Go Go.Proofs
def yvj (a0:(List (List UInt8))) (i1:Nat) (s1:List Phase):Except ((List Phase)) (List Phase):=
 (bif (decide (0<(s1.length:Int)) && (((s1.getD ((IntKind.wrap .i64 ((s1.length:Int)-1)).toNat) default).Color) == (a0.getD i1 default)))then .ok (s1.set ((IntKind.wrap .i64 ((s1.length:Int)-1)).toNat) ({ Color:=(s1.getD ((IntKind.wrap .i64 ((s1.length:Int)-1)).toNat) default).Color,Length:=IntKind.wrap .i64 (((s1.getD ((IntKind.wrap .i64 ((s1.length:Int)-1)).toNat) default).Length)+1):Phase }))else .ok (s1++[{ Color:=(a0.getD i1 default),Length:=1:Phase }]))
def zn (a0:(List (List UInt8))):(List Phase):=
 (match ye (yvj a0) (a0.length-0) 0 ([]:List Phase)with|.error e=>e|.ok s1=>s1)
namespace N104
theorem DD:DOk Tryz.prog (Go.Ab.DD []):=yj _
theorem o2 {p:Prop} (h:p:=by(first|((repeat' with_reducible apply And.intro)<;>first|(simp only[List.length_set];(first|done|fail))|(rw[IntKind.wrap_i64];omega)|(simp only[List.length_set];omega)|(intro j hj;by_cases hji:j=(IntKind.wrap .i64 ((s1.length:Int)-1)).toNat;(focus(rw[<- hji,yhd _ _ _ hj];simp only[beq_self_eq_true,cond_true]));(rw[yid _ _ _ _ hji];simp only[beq_eq_false_iff_ne.2 hji,cond_false]))|decide)|((repeat' with_reducible apply And.intro)<;>first|(simp only[List.length_append,List.length_singleton];(first|done|fail))|(rw[IntKind.wrap_i64];omega)|(intro j hj;by_cases hji:j<s1.length;(focus(simp only[ysf hji,ywh hji,cond_true];first|(first|done|fail)|with_reducible rfl));(have e0:j-s1.length=0:=by omega);(simp only[ypf hji hj,ybj hji,cond_false,e0,elt,borrowL,borrow];first|(first|done|fail)|with_reducible rfl))|decide));first|done|fail):p:=h
set_option maxHeartbeats 2000000 in
set_option maxRecDepth 20000 in
theorem den (a0:(List (List UInt8))) (hp0:a0.length<=1048576):Den Tryz.prog 104 [encL 1 eS a0] (ownL 112 2 yn (zn a0)):=by
 generalize hR:zn a0=r;unfold zn at hR;refine di Tryz.func104 Tryz.ntmps104 Tryz.results104 ?_;intro c hL hc hk;obtain⟨hL0,_⟩:=hL;have hw0:a0.length<9223372036854775808:=Nat.lt_succ_of_le (yc hL0).1;have hw1:∀ v∈a0,bwS v:=fun v hv=>ykl v ((yc hL0).2 v hv)
 clear hL0;simp only[pars,Nat.zero_add];iterate 3 refine rS ?_
 refine AWP.block ?_;generalize hz1:ye (yvj a0) (a0.length-0) 0 ([]:List Phase)=z1 at hR;refine AWP.range (yvj a0) (fun i1 s1=>⟨[(3,.ref 0 2 0 s1.length),(8,encL 1 eS a0),(9,.int .i64 (a0.length:Int)),(10,.int .i64 (i1:Int))],[.arr 112 2 s1.length (fun j=>yn (s1.getD j default))]⟩) (fun i1 s1=>s1.length<=([]:List Phase).length+1 * i1/\s1.length<=i1) (a0.length) 0 ([]:List Phase) [0] hz1 ot wt sm ?_;clear hz1;intro i1 s1 hi1 hW1 hz1;refine rS ?_;refine AWP.seq ?_;refine AWP.cond rfl (fun hb => ?_) (fun hb => ?_)
 ·have hlt1:i1<a0.length:=ot
  rw[yg hlt1]at hz1;simp only[yvj]at hz1;iterate 3 refine rS ?_
  refine AWP.cond rfl (fun hb => ?_) (fun hb => ?_)
  ·simp only[hb,cond_true]at hz1
   refine rS ?_;refine AWP.exit ?_;refine yb ?_;refine rS ?_;exact⟨_,[0],hlt1,wt,hz1,sm⟩
  ·simp only[hb,cond_false]at hz1
   iterate 2 refine rS ?_
   exact⟨_,[2],hlt1,wt,hz1,sm⟩
 ·obtain rfl:i1=a0.length:=ot
  rw[yh (Nat.le_refl _)]at hz1;subst hz1;dsimp only at hR;refine AWP.exit ?_;refine yb ?_;refine rS ?_;refine AWP.ret ?_;subst hR;exact es
end N104
def D_zn : DF
 | [x0]=>some (ownL 112 2 yn (zn (rdL dS x0)),false,[wL 1 eS dS x0,(rdL dS x0).length<=1048576])
 | _=>none
theorem yx0:OkD Tryz.prog 104 D_zn:=by unfold D_zn;exact dk N104.den
def yxv (a0:(List Phase)) (i1:Nat) (s1:List (List UInt8)) (i2:Nat) (s2:List (List UInt8)):Except ((List (List UInt8))) (List (List UInt8)):=
 .ok (s2++[(a0.getD i1 default).Color])
def y8t (a0:(List Phase)) (i1:Nat) (s1:List (List UInt8)):Except ((List (List UInt8))) (List (List UInt8)):=
 (match ye (yxv a0 i1 s1) (((a0.getD i1 default).Length).toNat-0) 0 s1 with|.error e=>.error e|.ok s2=>.ok s2)
def zm (a0:(List Phase)):(List (List UInt8)):=
 (match ye (y8t a0) (a0.length-0) 0 ([]:List (List UInt8))with|.error e=>e|.ok s1=>s1)
namespace N137
theorem DD:DOk Tryz.prog (Go.Ab.DD []):=yj _
theorem o1 {p:Prop} (h:p:=by(first|(have h9:=hph i1 hlt1;omega));first|done|fail):p:=h
set_option maxHeartbeats 2000000 in
set_option maxRecDepth 20000 in
theorem den (a0:(List Phase)) (hp0:PhOk a0):Den Tryz.prog 137 [encL 2 yn a0] (ownL 9 1 eS (zm a0)):=by
 generalize hR:zm a0=r;unfold zm at hR;refine di Tryz.func137 Tryz.ntmps137 Tryz.results137 ?_;intro c hL hc hk;obtain⟨hL0,_⟩:=hL;have hw0:a0.length<9223372036854775808:=Nat.lt_succ_of_le (yc hL0).1;have hw1:∀ v∈a0,bwPhase v:=fun v hv=>ycb v ((yc hL0).2 v hv)
 clear hL0;simp only[pars,Nat.zero_add];have hph:=fun(i:Nat) (hi:i<a0.length)=>PhOk.at hp0 hi
 have hpl:=hp0.2.1;iterate 3 refine rS ?_
 refine AWP.block ?_;generalize hz1:ye (y8t a0) (a0.length-0) 0 ([]:List (List UInt8))=z1 at hR;refine AWP.range (y8t a0) (fun i1 s1=>⟨[(3,.ref 0 1 0 s1.length),(7,encL 2 yn a0),(8,.int .i64 (a0.length:Int)),(9,.int .i64 (i1:Int))],[.arr 9 1 s1.length (fun j=>eS (s1.getD j default))]⟩) (fun i1 s1=>s1.length<=1000 * i1) (a0.length) 0 ([]:List (List UInt8)) [0] hz1 ot wt sm ?_;clear hz1;intro i1 s1 hi1 hW1 hz1;refine rS ?_;refine AWP.seq ?_;refine AWP.cond rfl (fun hb => ?_) (fun hb => ?_)
 ·have hlt1:i1<a0.length:=ot
  rw[yg hlt1]at hz1;simp only[y8t]at hz1;iterate 2 refine rS ?_
  refine AWP.block ?_;generalize hz2:ye (yxv a0 i1 s1) (((a0.getD i1 default).Length).toNat-0) 0 s1=z2 at hz1;refine AWP.range (yxv a0 i1 s1) (fun i2 s2=>⟨[(3,.ref 0 1 0 s2.length),(5,.ptr 1 0),(7,encL 2 yn a0),(8,.int .i64 (a0.length:Int)),(9,.int .i64 (i1:Int)),(14,.int .i64 ((a0.getD i1 default).Length)),(15,.int .i64 (i2:Int))],[.arr 9 1 s2.length (fun j=>eS (s2.getD j default)),.box [.str ((a0.getD i1 default).Color),.int .i64 ((a0.getD i1 default).Length)]]⟩) (fun i2 s2=>s2.length<=s1.length+1 * i2/\s2.length<=1000 * i1+i2) (((a0.getD i1 default).Length).toNat) 0 s1 [0,1] hz2 ot (by(have h9:=hW1;exact⟨by omega,by omega⟩)) sm ?_;clear hz2;intro i2 s2 hi2 hW2 hz2;refine rS ?_;refine AWP.seq ?_;refine AWP.cond rfl (fun hb => ?_) (fun hb => ?_)
  ·have hlt2:i2<((a0.getD i1 default).Length).toNat:=ot
   rw[yg hlt2]at hz2;simp only[yxv]at hz2;iterate 2 refine rS ?_
   exact⟨_,[3,1],hlt2,wt,hz2,sm⟩
  ·obtain rfl:i2=((a0.getD i1 default).Length).toNat:=ot
   rw[yh (Nat.le_refl _)]at hz2;subst hz2;dsimp only at hz1;refine AWP.exit ?_;refine yb ?_;refine rS ?_;exact⟨_,[0],hlt1,by(have h8:=hph i1 hlt1;first|(have h9:=hW2.2;omega)|(have h9:=hW3.2;omega)),hz1,sm⟩
 ·obtain rfl:i1=a0.length:=ot
  rw[yh (Nat.le_refl _)]at hz1;subst hz1;dsimp only at hR;refine AWP.exit ?_;refine yb ?_;refine rS ?_;refine AWP.ret ?_;subst hR;exact es
end N137
def D_zm : DF
 | [x0]=>some (ownL 9 1 eS (zm (rdL y6 x0)),false,[wL 2 yn y6 x0,PhOk (rdL y6 x0)])
 | _=>none
theorem yb1:OkD Tryz.prog 137 D_zm:=by unfold D_zm;exact dk N137.den
def ywn (a0:(List (List UInt8))) (a1:Int) (i1:Nat) (s1:Unit):Except (Bool) (Unit):=
 (bif ((a0.getD i1 default) != (a0.getD (((IntKind.wrap .i64 ((i1:Int)+a1)).tmod (a0.length:Int)).toNat) default))then .error false else .ok ())
def znc (a0:(List (List UInt8))) (a1:Int):Bool:=
 (match ye (ywn a0 a1) (a0.length-0) 0 ()with|.error e=>e|.ok s1=>true)
namespace N138
theorem DD:DOk Tryz.prog (Go.Ab.DD []):=yj _
theorem o1 {p:Prop} (h:p:=by(first|(have h9:=ywl (a:=IntKind.wrap .i64 ((i1:Int)+a1)) (n:=(a0.length:Int)) (by first|omega|(rw[IntKind.wrap_i64];omega)|(rw[IntKind.wrap_i64,IntKind.wrap_i64];omega)) (by omega);first|exact h9.1|exact h9.2.1|exact⟨h9.1,h9.2.1⟩|omega));first|done|fail):p:=h
set_option maxHeartbeats 2000000 in
set_option maxRecDepth 20000 in
theorem den (a0:(List (List UInt8))) (a1:Int) (hp0:a0.length<=1048576) (hp1:0<=a1) (hp2:a1<=1048576):Den Tryz.prog 138 [encL 1 eS a0,.int .i64 a1] (.bool (znc a0 a1)):=by
 generalize hR:znc a0 a1=r;unfold znc at hR;refine di Tryz.func138 Tryz.ntmps138 Tryz.results138 ?_;intro c hL hc hk;obtain⟨hL0,hL1,_⟩:=hL;have hw0:a0.length<9223372036854775808:=Nat.lt_succ_of_le (yc hL0).1;have hw1:∀ v∈a0,bwS v:=fun v hv=>ykl v ((yc hL0).2 v hv)
 clear hL0 hL1;simp only[pars,Nat.zero_add];iterate 2 refine rS ?_
 refine AWP.block ?_;generalize hz1:ye (ywn a0 a1) (a0.length-0) 0 ()=z1 at hR;refine AWP.range (ywn a0 a1) (fun i1 s1=>⟨[(0,encL 1 eS a0),(1,.int .i64 a1),(7,.int .i64 (a0.length:Int)),(8,.int .i64 (i1:Int))],[]⟩) (fun i1 s1=>True) (a0.length) 0 () [] hz1 ot wt sm ?_;clear hz1;intro i1 s1 hi1 hW1 hz1;refine rS ?_;refine AWP.seq ?_;refine AWP.cond rfl (fun hb => ?_) (fun hb => ?_)
 ·have hlt1:i1<a0.length:=ot
  rw[yg hlt1]at hz1;simp only[ywn]at hz1;refine rS ?_;refine rD 14 ?_;refine AWP.cond rfl (fun hb => ?_) (fun hb => ?_)
  ·simp only[hb,cond_true]at hz1
   refine rS ?_;refine AWP.ret ?_;subst hz1;dsimp only at hR;subst hR;exact es
  ·simp only[hb,cond_false]at hz1
   refine rS ?_;exact⟨_,[],hlt1,wt,hz1,sm⟩
 ·obtain rfl:i1=a0.length:=ot
  rw[yh (Nat.le_refl _)]at hz1;subst hz1;dsimp only at hR;refine AWP.exit ?_;refine yb ?_;refine rS ?_;refine AWP.ret ?_;subst hR;exact es
end N138
def D_znc : DF
 | [x0,x1]=>some (.bool (znc (rdL dS x0) (rdI x1)),false,[wL 1 eS dS x0,wI .i64 x1,(rdL dS x0).length<=1048576,0<=(rdI x1),(rdI x1)<=1048576])
 | _=>none
theorem ypx:OkD Tryz.prog 138 D_znc:=by unfold D_znc;exact dk N138.den
def zgd (a0:(List (List UInt8))) (a1:Int):(List (List UInt8)):=
 (zvb [subL a0 ((a1).toNat) (a0.length-(a1).toNat),subL a0 0 ((a1).toNat)])
namespace N125
theorem DD:DOk Tryz.prog (Go.Ab.DD [(139,dP D_zvb)]):=yd yhy.e <| yj _
theorem dn:type_of% (@D_zvb.eq_1):=by and_intros<;>intros<;>rfl
theorem o0 {p:Prop} (h:p:=by(first|(refine⟨⟨hp1,hp2,Int.le_refl _⟩,⟨Int.le_refl _,hp1,hp2⟩,⟨yuq a0 1 (fun s:List UInt8=>[AV.str s]) _ _,y8r a0 1 (fun s:List UInt8=>[AV.str s]) _⟩,?_⟩;intro v hv;simp only[List.mem_cons,List.not_mem_nil,or_false]at hv;rcases hv with rfl|rfl<;>(rw[yqb];omega)));first|done|fail):p:=h
theorem o1 {p:Prop} (h:p:=by(first|(intro v hv;simp only[List.mem_cons,List.not_mem_nil,or_false]at hv;rcases hv with rfl|rfl<;>(rw[yqb];omega))|(simp only[List.length_cons,List.length_nil];omega));first|done|fail):p:=h
theorem lx {p:Prop} (h:p:=by(exact lxx);first|done|fail):p:=h
set_option maxHeartbeats 2000000 in
set_option maxRecDepth 20000 in
theorem den (a0:(List (List UInt8))) (a1:Int) (hp0:a0.length<=1048576) (hp1:0<=a1) (hp2:a1<=(a0.length:Int)):Den Tryz.prog 125 [encL 1 eS a0,.int .i64 a1] (ownL 9 1 eS (zgd a0 a1)):=by
 generalize hR:zgd a0 a1=r;unfold zgd at hR;refine di Tryz.func125 Tryz.ntmps125 Tryz.results125 ?_;intro c hL hc hk;obtain⟨hL0,hL1,_⟩:=hL;have hw0:a0.length<9223372036854775808:=Nat.lt_succ_of_le (yc hL0).1;have hw1:∀ v∈a0,bwS v:=fun v hv=>ykl v ((yc hL0).2 v hv)
 clear hL0 hL1;simp only[pars,Nat.zero_add];refine rS ?_;refine rD 6 ?_;refine AWP.ret ?_;subst hR;exact es
end N125
def D_zgd : DF
 | [x0,x1]=>some (ownL 9 1 eS (zgd (rdL dS x0) (rdI x1)),false,[wL 1 eS dS x0,wI .i64 x1,(rdL dS x0).length<=1048576,0<=(rdI x1),(rdI x1)<=((rdL dS x0).length:Int)])
 | _=>none
theorem ygx:OkD Tryz.prog 125 D_zgd:=by unfold D_zgd;exact dk N125.den
def zzd (a0:Int) (a1:Int):Int:=
 (if IntKind.wrap .i64 (a0-a1)<IntKind.wrap .i64 (a1-a0)then IntKind.wrap .i64 (a1-a0)else IntKind.wrap .i64 (a0-a1))
namespace N128
theorem DD:DOk Tryz.prog (Go.Ab.DD []):=yj _
theorem den (a0:Int) (a1:Int)  : Den Tryz.prog 128 [.int .i64 a0,.int .i64 a1] (.int .i64 (zzd a0 a1)):=by
 generalize hR:zzd a0 a1=r;unfold zzd at hR;refine di Tryz.func128 Tryz.ntmps128 Tryz.results128 ?_;intro c hL hc hk;clear hL;simp only[pars,Nat.zero_add];iterate 2 refine rS ?_
 refine AWP.ret ?_;subst hR;exact es
end N128
def D_zzd : DF
 | [x0,x1]=>some (.int .i64 (zzd (rdI x0) (rdI x1)),false,[wI .i64 x0,wI .i64 x1])
 | _=>none
theorem yfx:OkD Tryz.prog 128 D_zzd:=by unfold D_zzd;exact dk N128.den
def zhd (a0:Phase) (a1:Phase) (a2:Int):Bool:=
 ((a0.Color == a1.Color) && decide ((zzd a0.Length a1.Length)<=a2))
namespace N109
theorem DD:DOk Tryz.prog (Go.Ab.DD [(128,dP D_zzd)]):=yd yfx.e <| yj _
theorem dn:type_of% (@D_zzd.eq_1):=by and_intros<;>intros<;>rfl
theorem den (a0:Phase) (a1:Phase) (a2:Int)  : Den Tryz.prog 109 [.agg (yn a0),.agg (yn a1),.int .i64 a2] (.bool (zhd a0 a1 a2)):=by
 generalize hR:zhd a0 a1 a2=r;unfold zhd at hR;refine di Tryz.func109 Tryz.ntmps109 Tryz.results109 ?_;intro c hL hc hk;obtain⟨hL0,hL1,hL2,_⟩:=hL;have hw0:bwPhase a0:=ycb a0 hL0;have hw1:bwPhase a1:=ycb a1 hL1;clear hL0 hL1 hL2;simp only[pars,Nat.zero_add];iterate 2 refine rS ?_
 refine AWP.ret ?_;subst hR;exact es
end N109
def D_zhd : DF
 | [x0,x1,x2]=>some (.bool (zhd (rdG y6 x0) (rdG y6 x1) (rdI x2)),false,[wG yn y6 x0,wG yn y6 x1,wI .i64 x2])
 | _=>none
theorem y6w:OkD Tryz.prog 109 D_zhd:=by unfold D_zhd;exact dk N109.den
def zce (a0:Phase) (a1:Phase) (a2:Int):Bool:=
 (zhd a0 a1 a2)
namespace N108
theorem DD:DOk Tryz.prog (Go.Ab.DD [(109,dP D_zhd)]):=yd y6w.e <| yj _
theorem dn:type_of% (@D_zhd.eq_1):=by and_intros<;>intros<;>rfl
theorem den (a0:Phase) (a1:Phase) (a2:Int)  : Den Tryz.prog 108 [.agg (yn a0),.agg (yn a1),.ep (yi a2)] (.bool (zce a0 a1 a2)):=by
 generalize hR:zce a0 a1 a2=r;unfold zce at hR;refine di Tryz.func108 Tryz.ntmps108 Tryz.results108 ?_;intro c hL hc hk;obtain⟨hL0,hL1,hL2,_⟩:=hL;have hw0:bwPhase a0:=ycb a0 hL0;have hw1:bwPhase a1:=ycb a1 hL1;clear hL0 hL1 hL2;simp only[pars,Nat.zero_add];iterate 2 refine rS ?_
 refine AWP.ret ?_;subst hR;exact es
end N108
def D_zce : DF
 | [x0,x1,x2]=>some (.bool (zce (rdG y6 x0) (rdG y6 x1) (rdP ydb x2)),false,[wG yn y6 x0,wG yn y6 x1,wP yi ydb x2])
 | _=>none
theorem yax:OkD Tryz.prog 108 D_zce:=by unfold D_zce;exact dk N108.den
def ylp (a0:(List Phase)) (a1:(List Phase)) (a2:Int) (i1:Nat) (s1:Unit):Except (Bool) (Unit):=
 (bif (!(zce (a0.getD i1 default) (a1.getD i1 default) a2))then .error false else .ok ())
def zac (a0:(List Phase)) (a1:(List Phase)) (a2:Int):Bool:=
 (bif ((a0.length:Int) != (a1.length:Int))then false else(match ye (ylp a0 a1 a2) (a0.length-0) 0 ()with|.error e=>e|.ok s1=>true))
namespace N_zac
theorem DD:DOk Tryz.prog (Go.Ab.DD [(108,dP D_zce)]):=yd yax.e <| yj _
theorem dn:type_of% (@D_zce.eq_1):=by and_intros<;>intros<;>rfl
theorem den (a0:(List Phase)) (a1:(List Phase)) (a2:Int)  : Den Tryz.prog 107 [encL 2 yn a0,encL 2 yn a1,.fn 108 0 [.ep (yi a2)]] (.bool (zac a0 a1 a2)):=by
 generalize hR:zac a0 a1 a2=r;unfold zac at hR;refine di Tryz.func107 Tryz.ntmps107 Tryz.results107 ?_;intro c hL hc hk;obtain⟨hL0,hL1,hL2,_⟩:=hL;have hw0:a0.length<9223372036854775808:=Nat.lt_succ_of_le (yc hL0).1;have hw1:∀ v∈a0,bwPhase v:=fun v hv=>ycb v ((yc hL0).2 v hv)
 have hw2:a1.length<9223372036854775808:=Nat.lt_succ_of_le (yc hL1).1;have hw3:∀ v∈a1,bwPhase v:=fun v hv=>ycb v ((yc hL1).2 v hv)
 clear hL0 hL1 hL2;simp only[pars,Nat.zero_add];iterate 2 refine rS ?_
 refine AWP.cond rfl (fun hb => ?_) (fun hb => ?_)
 ·replace hR:=ct hR
  refine rS ?_;refine AWP.ret ?_;subst hR;exact es
 ·replace hR:=cf hR
  refine rS ?_;refine AWP.block ?_;generalize hz1:ye (ylp a0 a1 a2) (a0.length-0) 0 ()=z1 at hR;refine AWP.range (ylp a0 a1 a2) (fun i1 s1=>⟨[(1,encL 2 yn a1),(2,.fn 108 0 [.ep (yi a2)]),(15,encL 2 yn a0),(16,.int .i64 (a0.length:Int)),(17,.int .i64 (i1:Int))],[]⟩) (fun i1 s1=>True) (a0.length) 0 () [] hz1 ot wt sm ?_;clear hz1;intro i1 s1 hi1 hW1 hz1;refine rS ?_;refine AWP.seq ?_;refine AWP.cond rfl (fun hb => ?_) (fun hb => ?_)
  ·have hlt1:i1<a0.length:=ot
   rw[yg hlt1]at hz1;simp only[ylp]at hz1;iterate 3 refine rS ?_
   refine AWP.cond rfl (fun hb => ?_) (fun hb => ?_)
   ·simp only[hb,cond_true]at hz1
    refine rS ?_;refine AWP.ret ?_;subst hz1;dsimp only at hR;subst hR;exact es
   ·simp only[hb,cond_false]at hz1
    refine rS ?_;exact⟨_,[],hlt1,wt,hz1,sm⟩
  ·obtain rfl:i1=a0.length:=ot
   rw[yh (Nat.le_refl _)]at hz1;subst hz1;dsimp only at hR;refine AWP.exit ?_;refine yb ?_;refine rS ?_;refine AWP.ret ?_;subst hR;exact es
end N_zac
def D_zac : DF
 | [x0,x1,(.fn f108_3 kf108_3 [y2])]=>some (.bool (zac (rdL y6 x0) (rdL y6 x1) (rdP ydb y2)),false,[wL 2 yn y6 x0,wL 2 yn y6 x1,y2=.ep (yi (rdP ydb y2)),f108_3=108,kf108_3=0])
 | _=>none
theorem yvx:OkD Tryz.prog 107 D_zac:=by
 intro xs r z ob h ho;unfold D_zac at h;split at h
 ·simp only[Option.some.injEq,Prod.mk.injEq]at h
  obtain⟨rfl,rfl,rfl⟩:=h;obtain⟨h0,h1,qy2,qf108_3,qkf108_3,_⟩:=ho;exact Den.sim (N_zac.den _ _ _ ) (y5 (yte h0).1 <| y5 (yte h1).1 <| y5 (by subst qf108_3 qkf108_3;rw[<- qy2];exact yoc _) <| trivial) (y7 (yte h0).2 <| y7 (yte h1).2 <| y7 (by rw[qy2];rfl) <| rfl) rfl
 ·cases h
def zl (a0:Int):(Int×Int×Int):=
 (bif (a0 == 2)then(10,10,15)else(bif (a0 == 4)then(5,15,20)else(bif (a0 == 5)then(20,20,25)else(bif (a0 == 6)then(5,5,20)else(bif (a0 == 7)then(2,3,10)else(bif (a0 == 8)then(5,5,30)else(0,0,0)))))))
namespace N100
theorem DD:DOk Tryz.prog (Go.Ab.DD []):=yj _
theorem den (a0:Int)  : Den Tryz.prog 100 [.int .i64 a0] (.tup [.int .i64 ((zl a0).1),.int .i64 ((zl a0).2.1),.int .i64 ((zl a0).2.2)]):=by
 generalize hR:zl a0=r;unfold zl at hR;refine di Tryz.func100 Tryz.ntmps100 Tryz.results100 ?_;intro c hL hc hk;clear hL;simp only[pars,Nat.zero_add];iterate 3 refine rS ?_
 refine AWP.cond rfl (fun hb => ?_) (fun hb => ?_)
 ·replace hR:=ct hR
  refine rS ?_;refine AWP.ret ?_;subst hR;exact es
 ·replace hR:=cf hR
  refine rS ?_;refine AWP.cond rfl (fun hb => ?_) (fun hb => ?_)
  ·replace hR:=ct hR
   refine rS ?_;refine AWP.ret ?_;subst hR;exact es
  ·replace hR:=cf hR
   refine rS ?_;refine AWP.cond rfl (fun hb => ?_) (fun hb => ?_)
   ·replace hR:=ct hR
    refine rS ?_;refine AWP.ret ?_;subst hR;exact es
   ·replace hR:=cf hR
    refine rS ?_;refine AWP.cond rfl (fun hb => ?_) (fun hb => ?_)
    ·replace hR:=ct hR
     refine rS ?_;refine AWP.ret ?_;subst hR;exact es
    ·replace hR:=cf hR
     refine rS ?_;refine AWP.cond rfl (fun hb => ?_) (fun hb => ?_)
     ·replace hR:=ct hR
      refine rS ?_;refine AWP.ret ?_;subst hR;exact es
     ·replace hR:=cf hR
      refine rS ?_;refine AWP.cond rfl (fun hb => ?_) (fun hb => ?_)
      ·replace hR:=ct hR
       refine rS ?_;refine AWP.ret ?_;subst hR;exact es
      ·replace hR:=cf hR
       refine rS ?_;refine AWP.ret ?_;subst hR;exact es
end N100
def D_zl : DF
 | [x0]=>some (.tup [.int .i64 ((zl (rdI x0)).1),.int .i64 ((zl (rdI x0)).2.1),.int .i64 ((zl (rdI x0)).2.2)],false,[wI .i64 x0])
 | _=>none
theorem y0p:OkD Tryz.prog 100 D_zl:=by unfold D_zl;exact dk N100.den
def yxq (a0:(List Int)) (i1:Nat) (s1:Int):Except (Int) (Int):=
 .ok (IntKind.wrap .i64 (s1+(a0.getD i1 default)))
def zbc (a0:(List Int)):Int:=
 (match ye (yxq a0) (a0.length-0) 0 0 with|.error e=>e|.ok s1=>s1)
namespace N101
theorem DD:DOk Tryz.prog (Go.Ab.DD []):=yj _
theorem den (a0:(List Int))  : Den Tryz.prog 101 [encL 1 yi a0] (.int .i64 (zbc a0)):=by
 generalize hR:zbc a0=r;unfold zbc at hR;refine di Tryz.func101 Tryz.ntmps101 Tryz.results101 ?_;intro c hL hc hk;obtain⟨hL0,_⟩:=hL;have hw0:a0.length<9223372036854775808:=Nat.lt_succ_of_le (yc hL0).1;clear hL0;simp only[pars,Nat.zero_add];iterate 3 refine rS ?_
 refine AWP.block ?_;generalize hz1:ye (yxq a0) (a0.length-0) 0 0=z1 at hR;refine AWP.range (yxq a0) (fun i1 s1=>⟨[(3,.int .i64 s1),(6,encL 1 yi a0),(7,.int .i64 (a0.length:Int)),(8,.int .i64 (i1:Int))],[]⟩) (fun i1 s1=>True) (a0.length) 0 0 [] hz1 ot wt sm ?_;clear hz1;intro i1 s1 hi1 hW1 hz1;refine rS ?_;refine AWP.seq ?_;refine AWP.cond rfl (fun hb => ?_) (fun hb => ?_)
 ·have hlt1:i1<a0.length:=ot
  rw[yg hlt1]at hz1;simp only[yxq]at hz1;iterate 3 refine rS ?_
  exact⟨_,[],hlt1,wt,hz1,sm⟩
 ·obtain rfl:i1=a0.length:=ot
  rw[yh (Nat.le_refl _)]at hz1;subst hz1;dsimp only at hR;refine AWP.exit ?_;refine yb ?_;refine rS ?_;refine AWP.ret ?_;subst hR;exact es
end N101
def D_zbc : DF
 | [x0]=>some (.int .i64 (zbc (rdL ydb x0)),false,[wL 1 yi ydb x0])
 | _=>none
theorem yds:OkD Tryz.prog 101 D_zbc:=by unfold D_zbc;exact dk N101.den
def zlb (a0:(List UInt8)):(List UInt8):=
 (bif ((((a0.length:Int) != 1) || Op.bytesLess a0 [65]) || !(Op.bytesLess a0 [90] || a0 == [90]))then[]else([[46,45],[45,46,46,46],[45,46,45,46],[45,46,46],[46],[46,46,45,46],[45,45,46],[46,46,46,46],[46,46],[46,45,45,45],[45,46,45],[46,45,46,46],[45,45],[45,46],[45,45,45],[46,45,45,46],[45,45,46,45],[46,45,46],[46,46,46],[45],[46,46,45],[46,46,46,45],[46,45,45],[45,46,46,45],[45,46,45,45],[45,45,46,46]]:List (List UInt8)).getD ((IntKind.wrap .u8 (((a0.getD 0 0).toNat:Int)-65)).toNat) [])
namespace N98
theorem DD:DOk Tryz.prog (Go.Ab.DD []):=yj _
theorem o0 {p:Prop} (h:p:=by(first|(simp only[Bool.or_eq_false_iff,Bool.not_eq_false',Bool.or_eq_true,bne_eq_false_iff_eq]at hb;have h9:=ymy a0 hb;have h8:=hb.1.1;and_intros<;>omega));first|done|fail):p:=h
theorem den (a0:(List UInt8))  : Den Tryz.prog 98 [.str a0] (.str (zlb a0)):=by
 generalize hR:zlb a0=r;unfold zlb at hR;refine di Tryz.func98 Tryz.ntmps98 Tryz.results98 ?_;intro c hL hc hk;obtain⟨hL0,_⟩:=hL;have hw0:a0.length<9223372036854775808:=Nat.lt_succ_of_le hL0;clear hL0;simp only[pars,Nat.zero_add];iterate 2 refine rS ?_
 refine AWP.cond rfl (fun hb => ?_) (fun hb => ?_)
 ·replace hR:=ct hR
  refine rS ?_;refine AWP.ret ?_;subst hR;exact es
 ·replace hR:=cf hR
  refine rS ?_;refine AWP.ret ?_;subst hR;exact es
end N98
def D_zlb : DF
 | [x0]=>some (.str (zlb (rdS x0)),false,[wS x0])
 | _=>none
theorem y1r:OkD Tryz.prog 98 D_zlb:=by unfold D_zlb;exact dk N98.den
theorem yti (a:List UInt8):zlb a=if a.length=1/\65<=(a.getD 0 0).toNat/\(a.getD 0 0).toNat<=90 then y0c.getD ((a.getD 0 0).toNat-65) []else[]:=by
 unfold zlb;by_cases h1:a.length=1
 ·have c1:((a.length:Int) != 1)=false:=by rw[h1];rfl
  rw[c1,yjh a 65 h1,yjh a 90 h1,y4t a 90 h1];have e1:(65:UInt8).toNat=65:=rfl;have e2:(90:UInt8).toNat=90:=rfl;rw[e1,e2];by_cases h2:65<=(a.getD 0 0).toNat/\(a.getD 0 0).toNat<=90
  ·rw[if_pos ⟨h1,h2⟩,decide_eq_false (by omega)]
   have c2:(decide ((a.getD 0 0).toNat<90) || decide ((a.getD 0 0).toNat=90))=true:=by
    rw[Bool.or_eq_true,decide_eq_true_eq,decide_eq_true_eq];omega
   rw[c2];simp only[Bool.or_self,Bool.not_true,cond_false];rw[ygj _ (by omega) (by omega),show((((a.getD 0 0).toNat:Int)-65).toNat)=(a.getD 0 0).toNat-65 by omega];rfl
  ·rw[if_neg (fun h=>h2 h.2)]
   by_cases h3:(a.getD 0 0).toNat<65
   ·rw[decide_eq_true h3];rfl
   ·have c2:(decide ((a.getD 0 0).toNat<90) || decide ((a.getD 0 0).toNat=90))=false:=by
     rw[decide_eq_false (by omega),decide_eq_false (by omega)];rfl
    rw[c2,decide_eq_false h3];rfl
 ·have c1:((a.length:Int) != 1)=true:=by rw[bne_iff_ne];omega
  rw[c1,if_neg (fun h=>h1 h.1)];rfl
theorem yjv (a:List UInt8):(zlb a).length<=4:=by
 rw[yti];split
 ·exact yxj _
 ·simp
theorem yvq (a:List UInt8):∀ x∈zlb a,x.toNat<128:=by
 intro x hx;rw[yti]at hx;split at hx
 ·rw[List.getD_eq_getElem?_getD]at hx
  cases h:y0c[(a.getD 0 0).toNat-65]? with
  | none=>rw[h]at hx;simp at hx
  | some y=>
   rw[h]at hx;rcases(y5g y (List.mem_of_getElem? h)).2.2 x hx with e|e<;>subst e<;>decide
 ·simp at hx
def y7s (a0:Character) (i1:Nat) (s1:List Int):Except ((List Int)) (List Int):=
 (bif decide (0<(i1:Int))then(bif ((((zlb a0.Letter).getD i1 0).toNat:Int) == 45)then .ok ((s1++([(zl a0.Kind).2.1]:List Int))++([IntKind.wrap .i64 (3 * ((zl a0.Kind).1))]:List Int))else .ok ((s1++([(zl a0.Kind).2.1]:List Int))++([(zl a0.Kind).1]:List Int)))else(bif ((((zlb a0.Letter).getD i1 0).toNat:Int) == 45)then .ok (s1++([IntKind.wrap .i64 (3 * ((zl a0.Kind).1))]:List Int))else .ok (s1++([(zl a0.Kind).1]:List Int))))
def ymt (a0:Character) (i2:Nat) (s2:List Int) (i3:Nat) (s3:List Int):Except ((List Int)) (List Int):=
 (bif decide (0<(i3:Int))then .ok ((s3++([(zl a0.Kind).2.1]:List Int))++([(zl a0.Kind).1]:List Int))else(bif decide (0<(i2:Int))then .ok ((s3++([IntKind.wrap .i64 (((zl a0.Kind).2.1)+20)]:List Int))++([(zl a0.Kind).1]:List Int))else .ok (s3++([(zl a0.Kind).1]:List Int))))
def ygt (a0:Character) (i2:Nat) (s2:List Int):Except ((List Int)) (List Int):=
 (match ye (ymt a0 i2 s2) (((([1]:List Int).getD i2 default)).toNat-0) 0 s2 with|.error e=>.error e|.ok s3=>.ok s3)
def yot (a0:Character) (i4:Nat) (s4:List Int) (i5:Nat) (s5:List Int):Except ((List Int)) (List Int):=
 (bif decide (0<(i5:Int))then .ok ((s5++([(zl a0.Kind).2.1]:List Int))++([(zl a0.Kind).1]:List Int))else(bif decide (0<(i4:Int))then .ok ((s5++([IntKind.wrap .i64 (((zl a0.Kind).2.1)+20)]:List Int))++([(zl a0.Kind).1]:List Int))else .ok (s5++([(zl a0.Kind).1]:List Int))))
def yxt (a0:Character) (i4:Nat) (s4:List Int):Except ((List Int)) (List Int):=
 (match ye (yot a0 i4 s4) (((a0.Group.getD i4 default)).toNat-0) 0 s4 with|.error e=>.error e|.ok s5=>.ok s5)
def ze (a0:Character):(List Int):=
 (bif (a0.Kind == 8)then(match ye (y7s a0) ((zlb a0.Letter).length-0) 0 ([]:List Int)with|.error e=>e|.ok s1=>s1)else(bif ((a0.Group.length:Int) == 0)then(match ye (ygt a0) (1-0) 0 ([]:List Int)with|.error e=>e|.ok s2=>(bif (a0.Letter != [])then s2++([(zl a0.Kind).2.1,20]:List Int)else s2))else(match ye (yxt a0) (a0.Group.length-0) 0 ([]:List Int)with|.error e=>e|.ok s4=>(bif (a0.Letter != [])then s4++([(zl a0.Kind).2.1,20]:List Int)else s4))))
namespace N102
theorem DD:DOk Tryz.prog (Go.Ab.DD [(100,dP D_zl),(98,dP D_zlb)]):=yd y0p.e <| yd y1r.e <| yj _
theorem dn:type_of% (And.intro @D_zl.eq_1 <| @D_zlb.eq_1):=by and_intros<;>intros<;>rfl
theorem o2 {p:Prop} (h:p:=by(first|(and_intros<;>first|decide|omega|(simp;(first|done|fail))|(rw[IntKind.wrap_i64];have:=hg9 i4;omega)|(rw[IntKind.wrap_i64];have:=hg1 i2;omega)|(rw[IntKind.wrap_i64];omega)|(intro i hi;exact ylm _ _ i hi)|(intro i hi;exact yao _ _ _ i hi)));first|done|fail):p:=h
theorem o3 {p:Prop} (h:p:=by(first|(refine⟨⟨Nat.le_refl _,fun i hi=>y9m _ _ _ i hi⟩,.inl fun i hi=>by rw[yvi _ _ _ i hi];simp[NoBorL,NoBor],by simp,fun i hi=>by rw[yvi _ _ _ i hi];exact yp _⟩));first|done|fail):p:=h
theorem lx {p:Prop} (h:p:=by(exact lxx);first|done|fail):p:=h
set_option maxHeartbeats 1000000 in
set_option maxRecDepth 20000 in
theorem den (a0:Character) (hb0:bdCharacter a0) (hp0:a0.Group.length<=4) (hp1:∀ v∈a0.Group,v<=9):Den Tryz.prog 102 [.agg (eCharacter a0)] (ownL 2 1 yi (ze a0)):=by
 generalize hR:ze a0=r;unfold ze at hR;refine di Tryz.func102 Tryz.ntmps102 Tryz.results102 ?_;intro c hL hc hk;obtain⟨hL0,_⟩:=hL;have hw0:bwCharacter a0:=yf a0 hL0;clear hL0;simp only[pars,Nat.zero_add];have hg9:∀ i:Nat,a0.Group.getD i default<=9:=fun i=>y4m hp1 i
 have hs9:=yjv a0.Letter;have hs8:=yvq a0.Letter;have hg1:∀ i:Nat,([1]:List Int).getD i default<=9:=fun i=>y4m (by simp) i
 iterate 3 refine rS ?_
 refine AWP.cond rfl (fun hb => ?_) (fun hb => ?_)
 ·replace hR:=ct hR
  iterate 2 refine rS ?_
  refine AWP.block ?_;refine AWP.lensT 27 rfl (fun hLn1 => ?_);generalize hz1:ye (y7s a0) ((zlb a0.Letter).length-0) 0 ([]:List Int)=z1 at hR;refine AWP.range (y7s a0) (fun i1 s1=>⟨[(3,.int .i64 ((zl a0.Kind).1)),(4,.int .i64 ((zl a0.Kind).2.1)),(6,.ref 0 1 0 s1.length),(28,.ptr 1 0)],[.arr 2 1 s1.length (fun j=>yi (s1.getD j default)),.it (zlb a0.Letter) i1 (decide (i1<(zlb a0.Letter).length))]⟩) (fun i1 s1=>s1.length<=([]:List Int).length+2 * i1/\s1.length<=2 * i1) ((zlb a0.Letter).length) 0 ([]:List Int) [1,2] hz1 ot wt sm ?_;clear hz1;intro i1 s1 hi1 hW1 hz1;refine AWP.seq ?_;by_cases hlt1:i1<(zlb a0.Letter).length
  ·rw[yg hlt1]at hz1;simp only[y7s]at hz1
   rw[decide_eq_true hlt1];refine rS ?_;refine AWP.seq ?_;refine AWP.cond rfl (fun hb => ?_) (fun hb=>nomatch hb);iterate 2 refine rS ?_
   refine AWP.cond rfl (fun hb => ?_) (fun hb => ?_)
   ·simp only[hb,cond_true]at hz1
    iterate 2 refine rS ?_
    refine AWP.cond rfl (fun hb => ?_) (fun hb => ?_)
    ·simp only[hb,cond_true]at hz1
     refine rS ?_;exact⟨_,[5,1],hlt1,wt,hz1,sm⟩
    ·simp only[hb,cond_false]at hz1
     refine rS ?_;exact⟨_,[5,1],hlt1,wt,hz1,sm⟩
   ·simp only[hb,cond_false]at hz1
    refine rS ?_;refine AWP.cond rfl (fun hb => ?_) (fun hb => ?_)
    ·simp only[hb,cond_true]at hz1
     refine rS ?_;exact⟨_,[3,1],hlt1,wt,hz1,sm⟩
    ·simp only[hb,cond_false]at hz1
     refine rS ?_;exact⟨_,[3,1],hlt1,wt,hz1,sm⟩
  ·obtain rfl:i1=(zlb a0.Letter).length:=by omega
   rw[yh (Nat.le_refl _)]at hz1;subst hz1;dsimp only at hR;simp only[Nat.lt_irrefl,decide_false];refine rS ?_;refine AWP.seq ?_;refine AWP.cond rfl (fun hb=>nomatch hb) (fun hb => ?_);refine AWP.exit ?_;refine yb ?_;refine rS ?_;refine AWP.ret ?_;subst hR;exact es
 ·replace hR:=cf hR
  iterate 2 refine rS ?_
  refine AWP.cond rfl (fun hb => ?_) (fun hb => ?_)
  ·replace hR:=ct hR
   iterate 3 refine rS ?_
   refine AWP.block ?_;generalize hz2:ye (ygt a0) (1-0) 0 ([]:List Int)=z2 at hR;refine AWP.range (ygt a0) (fun i2 s2=>⟨[(1,.ptr 0 0),(3,.int .i64 ((zl a0.Kind).1)),(4,.int .i64 ((zl a0.Kind).2.1)),(10,.ref 1 1 0 s2.length),(58,.ref 2 1 0 1),(59,.int .i64 1),(60,.int .i64 (i2:Int))],[.box [.int .i64 a0.Kind,encL 1 yi a0.Group,.str a0.Letter,.str a0.Colors,.int .i64 a0.Period],.arr 2 1 s2.length (fun j=>yi (s2.getD j default)),.arr 2 1 ([1]:List Int).length (fun j=>yi (([1]:List Int).getD j default))]⟩) (fun i2 s2=>s2.length<=18 * i2) (1) 0 ([]:List Int) [0,2,1] hz2 ot wt sm ?_;clear hz2;intro i2 s2 hi2 hW2 hz2;refine rS ?_;refine AWP.seq ?_;refine AWP.cond rfl (fun hb => ?_) (fun hb => ?_)
   ·have hlt2:i2<1:=ot
    rw[yg hlt2]at hz2;simp only[ygt]at hz2;iterate 2 refine rS ?_
    refine AWP.block ?_;generalize hz3:ye (ymt a0 i2 s2) (((([1]:List Int).getD i2 default)).toNat-0) 0 s2=z3 at hz2;refine AWP.range (ymt a0 i2 s2) (fun i3 s3=>⟨[(1,.ptr 0 0),(3,.int .i64 ((zl a0.Kind).1)),(4,.int .i64 ((zl a0.Kind).2.1)),(10,.ref 1 1 0 s3.length),(11,.int .i64 (i2:Int)),(58,.ref 2 1 0 1),(59,.int .i64 1),(60,.int .i64 (i2:Int)),(65,.int .i64 (([1]:List Int).getD i2 default)),(66,.int .i64 (i3:Int))],[.box [.int .i64 a0.Kind,encL 1 yi a0.Group,.str a0.Letter,.str a0.Colors,.int .i64 a0.Period],.arr 2 1 s3.length (fun j=>yi (s3.getD j default)),.arr 2 1 ([1]:List Int).length (fun j=>yi (([1]:List Int).getD j default))]⟩) (fun i3 s3=>s3.length<=s2.length+2 * i3/\s3.length<=18 * i2+2 * i3) (((([1]:List Int).getD i2 default)).toNat) 0 s2 [0,1,2] hz3 ot wt sm ?_;clear hz3;intro i3 s3 hi3 hW3 hz3;refine rS ?_;refine AWP.seq ?_;refine AWP.cond rfl (fun hb => ?_) (fun hb => ?_)
    ·have hlt3:i3<((([1]:List Int).getD i2 default)).toNat:=ot
     rw[yg hlt3]at hz3;simp only[ymt]at hz3;iterate 2 refine rS ?_
     refine AWP.cond rfl (fun hb => ?_) (fun hb => ?_)
     ·simp only[hb,cond_true]at hz3
      iterate 3 refine rS ?_
      exact⟨_,[0,6,2],hlt3,wt,hz3,sm⟩
     ·simp only[hb,cond_false]at hz3
      refine rS ?_;refine AWP.cond rfl (fun hb => ?_) (fun hb => ?_)
      ·simp only[hb,cond_true]at hz3
       iterate 3 refine rS ?_
       exact⟨_,[0,6,2],hlt3,wt,hz3,sm⟩
      ·simp only[hb,cond_false]at hz3
       iterate 2 refine rS ?_
       exact⟨_,[0,4,2],hlt3,wt,hz3,sm⟩
    ·obtain rfl:i3=((([1]:List Int).getD i2 default)).toNat:=ot
     rw[yh (Nat.le_refl _)]at hz3;subst hz3;dsimp only at hz2;refine AWP.exit ?_;refine yb ?_;refine rS ?_;exact⟨_,[0,1,2],hlt2,by(have h9:=hg1 i2;omega),hz2,sm⟩
   ·obtain rfl:i2=1:=ot
    rw[yh (Nat.le_refl _)]at hz2;subst hz2;dsimp only at hR;refine AWP.exit ?_;refine yb ?_;refine rS ?_;refine AWP.cond rfl (fun hb => ?_) (fun hb => ?_)
    ·replace hR:=ct hR
     iterate 2 refine rS ?_
     refine AWP.ret ?_;subst hR;exact es
    ·replace hR:=cf hR
     refine rS ?_;refine AWP.ret ?_;subst hR;exact es
  ·replace hR:=cf hR
   iterate 2 refine rS ?_
   refine AWP.block ?_;refine AWP.lensS 9 rfl (fun hLn4 => ?_);generalize hz4:ye (yxt a0) (a0.Group.length-0) 0 ([]:List Int)=z4 at hR;refine AWP.range (yxt a0) (fun i4 s4=>⟨[(1,.ptr 0 0),(3,.int .i64 ((zl a0.Kind).1)),(4,.int .i64 ((zl a0.Kind).2.1)),(10,.ref 1 1 0 s4.length),(58,encL 1 yi a0.Group),(59,.int .i64 (a0.Group.length:Int)),(60,.int .i64 (i4:Int))],[.box [.int .i64 a0.Kind,encL 1 yi a0.Group,.str a0.Letter,.str a0.Colors,.int .i64 a0.Period],.arr 2 1 s4.length (fun j=>yi (s4.getD j default))]⟩) (fun i4 s4=>s4.length<=18 * i4) (a0.Group.length) 0 ([]:List Int) [0,1] hz4 ot wt sm ?_;clear hz4;intro i4 s4 hi4 hW4 hz4;refine rS ?_;refine AWP.seq ?_;refine AWP.cond rfl (fun hb => ?_) (fun hb => ?_)
   ·have hlt4:i4<a0.Group.length:=ot
    rw[yg hlt4]at hz4;simp only[yxt]at hz4;iterate 2 refine rS ?_
    refine AWP.block ?_;generalize hz5:ye (yot a0 i4 s4) (((a0.Group.getD i4 default)).toNat-0) 0 s4=z5 at hz4;refine AWP.range (yot a0 i4 s4) (fun i5 s5=>⟨[(1,.ptr 0 0),(3,.int .i64 ((zl a0.Kind).1)),(4,.int .i64 ((zl a0.Kind).2.1)),(10,.ref 1 1 0 s5.length),(11,.int .i64 (i4:Int)),(58,encL 1 yi a0.Group),(59,.int .i64 (a0.Group.length:Int)),(60,.int .i64 (i4:Int)),(65,.int .i64 (a0.Group.getD i4 default)),(66,.int .i64 (i5:Int))],[.box [.int .i64 a0.Kind,encL 1 yi a0.Group,.str a0.Letter,.str a0.Colors,.int .i64 a0.Period],.arr 2 1 s5.length (fun j=>yi (s5.getD j default))]⟩) (fun i5 s5=>s5.length<=s4.length+2 * i5/\s5.length<=18 * i4+2 * i5) (((a0.Group.getD i4 default)).toNat) 0 s4 [0,1] hz5 ot wt sm ?_;clear hz5;intro i5 s5 hi5 hW5 hz5;refine rS ?_;refine AWP.seq ?_;refine AWP.cond rfl (fun hb => ?_) (fun hb => ?_)
    ·have hlt5:i5<((a0.Group.getD i4 default)).toNat:=ot
     rw[yg hlt5]at hz5;simp only[yot]at hz5;iterate 2 refine rS ?_
     refine AWP.cond rfl (fun hb => ?_) (fun hb => ?_)
     ·simp only[hb,cond_true]at hz5
      iterate 3 refine rS ?_
      exact⟨_,[0,5],hlt5,wt,hz5,sm⟩
     ·simp only[hb,cond_false]at hz5
      refine rS ?_;refine AWP.cond rfl (fun hb => ?_) (fun hb => ?_)
      ·simp only[hb,cond_true]at hz5
       iterate 3 refine rS ?_
       exact⟨_,[0,5],hlt5,wt,hz5,sm⟩
      ·simp only[hb,cond_false]at hz5
       iterate 2 refine rS ?_
       exact⟨_,[0,3],hlt5,wt,hz5,sm⟩
    ·obtain rfl:i5=((a0.Group.getD i4 default)).toNat:=ot
     rw[yh (Nat.le_refl _)]at hz5;subst hz5;dsimp only at hz4;refine AWP.exit ?_;refine yb ?_;refine rS ?_;exact⟨_,[0,1],hlt4,by(have h9:=hg9 i4;omega),hz4,sm⟩
   ·obtain rfl:i4=a0.Group.length:=ot
    rw[yh (Nat.le_refl _)]at hz4;subst hz4;dsimp only at hR;refine AWP.exit ?_;refine yb ?_;refine rS ?_;refine AWP.cond rfl (fun hb => ?_) (fun hb => ?_)
    ·replace hR:=ct hR
     iterate 2 refine rS ?_
     refine AWP.ret ?_;subst hR;exact es
    ·replace hR:=cf hR
     refine rS ?_;refine AWP.ret ?_;subst hR;exact es
end N102
def D_ze : DF
 | [x0]=>some (ownL 2 1 yi (ze (rdG ya x0)),false,[wG eCharacter ya x0,bdCharacter (rdG ya x0),(rdG ya x0).Group.length<=4,∀ v∈(rdG ya x0).Group,v<=9])
 | _=>none
theorem y0v:OkD Tryz.prog 102 D_ze:=by unfold D_ze;exact dk N102.den
def zde (a0:Int):Bool:=
 ((a0 == 6) || (a0 == 7))
namespace N99
theorem DD:DOk Tryz.prog (Go.Ab.DD []):=yj _
theorem den (a0:Int)  : Den Tryz.prog 99 [.int .i64 a0] (.bool (zde a0)):=by
 generalize hR:zde a0=r;unfold zde at hR;refine di Tryz.func99 Tryz.ntmps99 Tryz.results99 ?_;intro c hL hc hk;clear hL;simp only[pars,Nat.zero_add];iterate 2 refine rS ?_
 refine AWP.ret ?_;subst hR;exact es
end N99
def D_zde : DF
 | [x0]=>some (.bool (zde (rdI x0)),false,[wI .i64 x0])
 | _=>none
theorem ysy:OkD Tryz.prog 99 D_zde:=by unfold D_zde;exact dk N99.den
def zcc (a0:Character):Bool:=
 ((a0.Kind == 1) || ((zde a0.Kind) && ((a0.Group.length:Int) == 0)))
namespace N70
theorem DD:DOk Tryz.prog (Go.Ab.DD [(99,dP D_zde)]):=yd ysy.e <| yj _
theorem dn:type_of% (@D_zde.eq_1):=by and_intros<;>intros<;>rfl
theorem den (a0:Character)  : Den Tryz.prog 70 [.agg (eCharacter a0)] (.bool (zcc a0)):=by
 generalize hR:zcc a0=r;unfold zcc at hR;refine di Tryz.func70 Tryz.ntmps70 Tryz.results70 ?_;intro c hL hc hk;obtain⟨hL0,_⟩:=hL;have hw0:bwCharacter a0:=yf a0 hL0;clear hL0;simp only[pars,Nat.zero_add];iterate 2 refine rS ?_
 refine AWP.ret ?_;subst hR;exact es
end N70
def D_zcc : DF
 | [x0]=>some (.bool (zcc (rdG ya x0)),false,[wG eCharacter ya x0])
 | _=>none
theorem yrm:OkD Tryz.prog 70 D_zcc:=by unfold D_zcc;exact dk N70.den
def zh (a0:Int) (a1:Int) (a2:Int):Bool:=
 (decide (a1<=a0) && decide (a0<=a2))
namespace N42
theorem DD:DOk Tryz.prog (Go.Ab.DD []):=yj _
theorem den (a0:Int) (a1:Int) (a2:Int)  : Den Tryz.prog 42 [.int .i64 a0,.int .i64 a1,.int .i64 a2] (.bool (zh a0 a1 a2)):=by
 generalize hR:zh a0 a1 a2=r;unfold zh at hR;refine di Tryz.func42 Tryz.ntmps42 Tryz.results42 ?_;intro c hL hc hk;clear hL;simp only[pars,Nat.zero_add];iterate 2 refine rS ?_
 refine AWP.ret ?_;subst hR;exact es
end N42
def D_zh : DF
 | [x0,x1,x2]=>some (.bool (zh (rdI x0) (rdI x1) (rdI x2)),false,[wI .i64 x0,wI .i64 x1,wI .i64 x2])
 | _=>none
theorem yeg:OkD Tryz.prog 42 D_zh:=by unfold D_zh;exact dk N42.den
def zad (a0:Int) (a1:Int):Bool:=
 decide (a0<=a1)
namespace N43
theorem DD:DOk Tryz.prog (Go.Ab.DD []):=yj _
theorem den (a0:Int) (a1:Int)  : Den Tryz.prog 43 [.int .i64 a0,.int .i64 a1] (.bool (zad a0 a1)):=by
 generalize hR:zad a0 a1=r;unfold zad at hR;refine di Tryz.func43 Tryz.ntmps43 Tryz.results43 ?_;intro c hL hc hk;clear hL;simp only[pars,Nat.zero_add];iterate 2 refine rS ?_
 refine AWP.ret ?_;subst hR;exact es
end N43
def D_zad : DF
 | [x0,x1]=>some (.bool (zad (rdI x0) (rdI x1)),false,[wI .i64 x0,wI .i64 x1])
 | _=>none
theorem y5q:OkD Tryz.prog 43 D_zad:=by unfold D_zad;exact dk N43.den
def ypn (a0:(List Int)) (i1:Nat) (s1:Int):Except (Bool) (Int):=
 (bif (!(zh (a0.getD i1 default) 1 9))then .error false else .ok (IntKind.wrap .i64 (s1+(a0.getD i1 default))))
def zjc (a0:(List Int)):Bool:=
 (match ye (ypn a0) (a0.length-0) 0 0 with|.error e=>e|.ok s1=>(((zad (a0.length:Int) 4) && decide (s1<=12)) && (!(zrb a0 ([1]:List Int)))))
namespace N96
theorem DD:DOk Tryz.prog (Go.Ab.DD [(42,dP D_zh),(43,dP D_zad),(97,dP D_zrb)]):=yd yeg.e <| yd y5q.e <| yd y7q.e <| yj _
theorem dn:type_of% (And.intro @D_zh.eq_1 <| And.intro @D_zad.eq_1 <| @D_zrb.eq_1):=by and_intros<;>intros<;>rfl
theorem ol:type_of% (@zh.eq_1):=@zh.eq_1
theorem den (a0:(List Int))  : Den Tryz.prog 96 [encL 1 yi a0] (.bool (zjc a0)):=by
 generalize hR:zjc a0=r;unfold zjc at hR;refine di Tryz.func96 Tryz.ntmps96 Tryz.results96 ?_;intro c hL hc hk;obtain⟨hL0,_⟩:=hL;have hw0:a0.length<9223372036854775808:=Nat.lt_succ_of_le (yc hL0).1;clear hL0;simp only[pars,Nat.zero_add];iterate 3 refine rS ?_
 refine AWP.block ?_;generalize hz1:ye (ypn a0) (a0.length-0) 0 0=z1 at hR;refine AWP.range (ypn a0) (fun i1 s1=>⟨[(0,encL 1 yi a0),(3,.int .i64 s1),(6,encL 1 yi a0),(7,.int .i64 (a0.length:Int)),(8,.int .i64 (i1:Int))],[]⟩) (fun i1 s1=>True) (a0.length) 0 0 [] hz1 ot wt sm ?_;clear hz1;intro i1 s1 hi1 hW1 hz1;refine rS ?_;refine AWP.seq ?_;refine AWP.cond rfl (fun hb => ?_) (fun hb => ?_)
 ·have hlt1:i1<a0.length:=ot
  rw[yg hlt1]at hz1;simp only[ypn]at hz1;iterate 2 refine rS ?_
  refine AWP.cond rfl (fun hb => ?_) (fun hb => ?_)
  ·simp only[hb,cond_true]at hz1
   refine rS ?_;refine AWP.ret ?_;subst hz1;dsimp only at hR;subst hR;exact es
  ·simp only[hb,cond_false]at hz1
   iterate 2 refine rS ?_
   exact⟨_,[],hlt1,wt,hz1,sm⟩
 ·obtain rfl:i1=a0.length:=ot
  rw[yh (Nat.le_refl _)]at hz1;subst hz1;dsimp only at hR;refine AWP.exit ?_;refine yb ?_;refine rS ?_;refine AWP.ret ?_;subst hR;exact es
end N96
def D_zjc : DF
 | [x0]=>some (.bool (zjc (rdL ydb x0)),false,[wL 1 yi ydb x0])
 | _=>none
theorem ydx:OkD Tryz.prog 96 D_zjc:=by unfold D_zjc;exact dk N96.den
def zdc (a0:Character):Bool:=
 (bif (a0.Kind == 1)then(((a0.Group.length:Int) == 0) && (a0.Letter == []))else(bif (a0.Kind == 3)then(((a0.Group.length:Int) == 0) && (a0.Letter == []))else(bif (a0.Kind == 2)then((a0.Letter == []) && (zjc a0.Group))else(bif (a0.Kind == 4)then((a0.Letter == []) && (zjc a0.Group))else(bif (a0.Kind == 5)then((a0.Letter == []) && (zjc a0.Group))else(bif (a0.Kind == 6)then(bif (a0.Letter == [])then(((a0.Group.length:Int) == 0) || (((a0.Group.length:Int) == 1) && (zh (a0.Group.getD 0 default) 2 9)))else((a0.Letter == [76]) && (zrb a0.Group ([6]:List Int))))else(bif (a0.Kind == 7)then(bif (a0.Letter == [])then(((a0.Group.length:Int) == 0) || (((a0.Group.length:Int) == 1) && (zh (a0.Group.getD 0 default) 2 9)))else((a0.Letter == [76]) && (zrb a0.Group ([6]:List Int))))else(bif (a0.Kind == 8)then(((zlb a0.Letter) != []) && ((a0.Group.length:Int) == 0))else false))))))))
namespace N69
theorem DD:DOk Tryz.prog (Go.Ab.DD [(42,dP D_zh),(96,dP D_zjc),(97,dP D_zrb),(98,dP D_zlb)]):=yd yeg.e <| yd ydx.e <| yd y7q.e <| yd y1r.e <| yj _
theorem dn:type_of% (And.intro @D_zh.eq_1 <| And.intro @D_zjc.eq_1 <| And.intro @D_zrb.eq_1 <| @D_zlb.eq_1):=by and_intros<;>intros<;>rfl
theorem ol:type_of% (@zh.eq_1):=@zh.eq_1
theorem den (a0:Character)  : Den Tryz.prog 69 [.agg (eCharacter a0)] (.bool (zdc a0)):=by
 generalize hR:zdc a0=r;unfold zdc at hR;refine di Tryz.func69 Tryz.ntmps69 Tryz.results69 ?_;intro c hL hc hk;obtain⟨hL0,_⟩:=hL;have hw0:bwCharacter a0:=yf a0 hL0;clear hL0;simp only[pars,Nat.zero_add];iterate 3 refine rS ?_
 refine AWP.cond rfl (fun hb => ?_) (fun hb => ?_)
 ·replace hR:=ct hR
  refine AWP.skip ?_;refine AWP.cond rfl (fun hb => ?_) (fun hb => ?_)
  ·refine rS ?_
   refine AWP.ret ?_;subst hR;exact es
  ·exfalso;simp_all
 ·replace hR:=cf hR
  refine rS ?_;refine AWP.cond rfl (fun hb => ?_) (fun hb => ?_)
  ·replace hR:=ct hR
   refine rS ?_;refine AWP.ret ?_;subst hR;exact es
  ·replace hR:=cf hR
   refine rS ?_;refine AWP.cond rfl (fun hb => ?_) (fun hb => ?_)
   ·replace hR:=ct hR
    refine AWP.skip ?_;refine AWP.cond rfl (fun hb => ?_) (fun hb => ?_)
    ·refine rS ?_
     refine AWP.ret ?_;subst hR;exact es
    ·exfalso;simp_all
   ·replace hR:=cf hR
    refine rS ?_;refine AWP.cond rfl (fun hb => ?_) (fun hb => ?_)
    ·replace hR:=ct hR
     refine AWP.skip ?_;refine AWP.cond rfl (fun hb => ?_) (fun hb => ?_)
     ·refine rS ?_
      refine AWP.ret ?_;subst hR;exact es
     ·exfalso;simp_all
    ·replace hR:=cf hR
     refine rS ?_;refine AWP.cond rfl (fun hb => ?_) (fun hb => ?_)
     ·replace hR:=ct hR
      refine rS ?_;refine AWP.ret ?_;subst hR;exact es
     ·replace hR:=cf hR
      refine rS ?_;refine AWP.cond rfl (fun hb => ?_) (fun hb => ?_)
      ·replace hR:=ct hR
       refine AWP.skip ?_;refine AWP.cond rfl (fun hb => ?_) (fun hb => ?_)
       ·refine rS ?_
        refine AWP.cond rfl (fun hb => ?_) (fun hb => ?_)
        ·replace hR:=ct hR
         refine rS ?_;refine AWP.ret ?_;subst hR;exact es
        ·replace hR:=cf hR
         refine rS ?_;refine AWP.ret ?_;subst hR;exact es
       ·exfalso;simp_all
      ·replace hR:=cf hR
       refine rS ?_;refine AWP.cond rfl (fun hb => ?_) (fun hb => ?_)
       ·replace hR:=ct hR
        refine rS ?_;refine AWP.cond rfl (fun hb => ?_) (fun hb => ?_)
        ·replace hR:=ct hR
         refine rS ?_;refine AWP.ret ?_;subst hR;exact es
        ·replace hR:=cf hR
         refine rS ?_;refine AWP.ret ?_;subst hR;exact es
       ·replace hR:=cf hR
        refine rS ?_;refine AWP.cond rfl (fun hb => ?_) (fun hb => ?_)
        ·replace hR:=ct hR
         refine rS ?_;refine AWP.ret ?_;subst hR;exact es
        ·replace hR:=cf hR
         refine rS ?_;refine AWP.ret ?_;subst hR;exact es
end N69
def D_zdc : DF
 | [x0]=>some (.bool (zdc (rdG ya x0)),false,[wG eCharacter ya x0])
 | _=>none
theorem ymx:OkD Tryz.prog 69 D_zdc:=by unfold D_zdc;exact dk N69.den
def yjl (a0:(List UInt8)) (i1:Nat) (s1:Int):Except (Bool) (Int):=
 (bif decide ((zcd [87,82,71,89] ((a0.getD i1 0).toNat:Int))<=s1)then .error false else .ok (zcd [87,82,71,89] ((a0.getD i1 0).toNat:Int)))
def zgc (a0:(List UInt8)):Bool:=
 (match ye (yjl a0) (a0.length-0) 0 (-1)with|.error e=>e|.ok s1=>(zh (a0.length:Int) 1 3))
namespace N68
theorem DD:DOk Tryz.prog (Go.Ab.DD [(42,dP D_zh),(95,dP D_zcd)]):=yd yeg.e <| yd ycy.e <| yj _
theorem dn:type_of% (And.intro @D_zh.eq_1 <| @D_zcd.eq_1):=by and_intros<;>intros<;>rfl
theorem ol:type_of% (@zh.eq_1):=@zh.eq_1
theorem den (a0:(List UInt8))  : Den Tryz.prog 68 [.str a0] (.bool (zgc a0)):=by
 generalize hR:zgc a0=r;unfold zgc at hR;refine di Tryz.func68 Tryz.ntmps68 Tryz.results68 ?_;intro c hL hc hk;obtain⟨hL0,_⟩:=hL;have hw0:a0.length<9223372036854775808:=Nat.lt_succ_of_le hL0;clear hL0;simp only[pars,Nat.zero_add];iterate 3 refine rS ?_
 refine AWP.block ?_;generalize hz1:ye (yjl a0) (a0.length-0) 0 (-1)=z1 at hR;refine AWP.range (yjl a0) (fun i1 s1=>⟨[(0,.str a0),(3,.int .i64 s1),(4,.int .i64 (i1:Int))],[]⟩) (fun i1 s1=>True) (a0.length) 0 (-1) [] hz1 ot wt sm ?_;clear hz1;intro i1 s1 hi1 hW1 hz1;refine rS ?_;refine AWP.cond rfl (fun hb => ?_) (fun hb => ?_)
 ·have hlt1:i1<a0.length:=ot
  rw[yg hlt1]at hz1;simp only[yjl]at hz1;iterate 2 refine rS ?_
  refine AWP.cond rfl (fun hb => ?_) (fun hb => ?_)
  ·simp only[hb,cond_true]at hz1
   refine rS ?_;refine AWP.ret ?_;subst hz1;dsimp only at hR;subst hR;exact es
  ·simp only[hb,cond_false]at hz1
   iterate 2 refine rS ?_
   exact⟨_,[],hlt1,wt,hz1,sm⟩
 ·obtain rfl:i1=a0.length:=ot
  rw[yh (Nat.le_refl _)]at hz1;subst hz1;dsimp only at hR;refine AWP.exit ?_;refine yb ?_;refine rS ?_;refine AWP.ret ?_;subst hR;exact es
end N68
def D_zgc : DF
 | [x0]=>some (.bool (zgc (rdS x0)),false,[wS x0])
 | _=>none
theorem yxw:OkD Tryz.prog 68 D_zgc:=by unfold D_zgc;exact dk N68.den
def zwd (a0:Character):Int:=
 (bif (zcc a0)then 0 else(bif (a0.Kind == 3)then 20 else(bif decide (1<(a0.Group.length:Int))then IntKind.wrap .i64 ((zbc (ze a0))+(IntKind.wrap .i64 (((zl a0.Kind).2.2)+20)))else IntKind.wrap .i64 ((zbc (ze a0))+((zl a0.Kind).2.2)))))
namespace N71
theorem DD:DOk Tryz.prog (Go.Ab.DD [(100,dP D_zl),(101,dP D_zbc),(102,dP D_ze),(70,dP D_zcc)]):=yd y0p.e <| yd yds.e <| yd y0v.e <| yd yrm.e <| yj _
theorem dn:type_of% (And.intro @D_zl.eq_1 <| And.intro @D_zbc.eq_1 <| And.intro @D_ze.eq_1 <| @D_zcc.eq_1):=by and_intros<;>intros<;>rfl
theorem den (a0:Character) (hb0:bdCharacter a0) (hp0:a0.Group.length<=4) (hp1:∀ v∈a0.Group,v<=9):Den Tryz.prog 71 [.agg (eCharacter a0)] (.int .i64 (zwd a0)):=by
 generalize hR:zwd a0=r;unfold zwd at hR;refine di Tryz.func71 Tryz.ntmps71 Tryz.results71 ?_;intro c hL hc hk;obtain⟨hL0,_⟩:=hL;have hw0:bwCharacter a0:=yf a0 hL0;clear hL0;simp only[pars,Nat.zero_add];iterate 2 refine rS ?_
 refine AWP.cond rfl (fun hb => ?_) (fun hb => ?_)
 ·replace hR:=ct hR
  refine rS ?_;refine AWP.ret ?_;subst hR;exact es
 ·replace hR:=cf hR
  refine rS ?_;refine AWP.cond rfl (fun hb => ?_) (fun hb => ?_)
  ·replace hR:=ct hR
   refine rS ?_;refine AWP.ret ?_;subst hR;exact es
  ·replace hR:=cf hR
   iterate 2 refine rS ?_
   refine AWP.cond rfl (fun hb => ?_) (fun hb => ?_)
   ·replace hR:=ct hR
    iterate 2 refine rS ?_
    refine AWP.ret ?_;subst hR;exact es
   ·replace hR:=cf hR
    refine rS ?_;refine AWP.ret ?_;subst hR;exact es
end N71
def D_zwd : DF
 | [x0]=>some (.int .i64 (zwd (rdG ya x0)),false,[wG eCharacter ya x0,bdCharacter (rdG ya x0),(rdG ya x0).Group.length<=4,∀ v∈(rdG ya x0).Group,v<=9])
 | _=>none
theorem y6y:OkD Tryz.prog 71 D_zwd:=by unfold D_zwd;exact dk N71.den
def y7k (a0:(List (List Int))) (a1:Int) (i1:Nat) (s1:Unit):Except (Bool) (Unit):=
 (bif (((((((a0.getD i1 default).length:Int) != 2) || decide (((a0.getD i1 default).getD 0 default)<0)) || decide (((a0.getD i1 default).getD 1 default)<=((a0.getD i1 default).getD 0 default))) || decide (a1<=((a0.getD i1 default).getD 1 default))) || (decide (0<(i1:Int)) && decide (0<=(zmc (a0.getD ((IntKind.wrap .i64 ((i1:Int)-1)).toNat) default) (a0.getD i1 default)))))then .error false else .ok ())
def zsc (a0:(List (List Int))) (a1:Int):Bool:=
 (match ye (y7k a0 a1) (a0.length-0) 0 ()with|.error e=>e|.ok s1=>(zh a1 0 24))
namespace N39
theorem DD:DOk Tryz.prog (Go.Ab.DD [(42,dP D_zh),(52,dP D_zmc)]):=yd yeg.e <| yd yrx.e <| yj _
theorem dn:type_of% (And.intro @D_zh.eq_1 <| @D_zmc.eq_1):=by and_intros<;>intros<;>rfl
theorem ol:type_of% (@zh.eq_1):=@zh.eq_1
theorem den (a0:(List (List Int))) (a1:Int)  : Den Tryz.prog 39 [encL 1 yt a0,.int .i64 a1] (.bool (zsc a0 a1)):=by
 generalize hR:zsc a0 a1=r;unfold zsc at hR;refine di Tryz.func39 Tryz.ntmps39 Tryz.results39 ?_;intro c hL hc hk;obtain⟨hL0,hL1,_⟩:=hL;have hw0:a0.length<9223372036854775808:=Nat.lt_succ_of_le (yc hL0).1;have hw1:∀ v∈a0,bwLIi64 v:=fun v hv=>ynb v ((yc hL0).2 v hv)
 clear hL0 hL1;simp only[pars,Nat.zero_add];iterate 2 refine rS ?_
 refine AWP.block ?_;generalize hz1:ye (y7k a0 a1) (a0.length-0) 0 ()=z1 at hR;refine AWP.range (y7k a0 a1) (fun i1 s1=>⟨[(0,encL 1 yt a0),(1,.int .i64 a1),(7,encL 1 yt a0),(8,.int .i64 (a0.length:Int)),(9,.int .i64 (i1:Int))],[]⟩) (fun i1 s1=>True) (a0.length) 0 () [] hz1 ot wt sm ?_;clear hz1;intro i1 s1 hi1 hW1 hz1;refine rS ?_;refine AWP.seq ?_;refine AWP.cond rfl (fun hb => ?_) (fun hb => ?_)
 ·have hlt1:i1<a0.length:=ot
  rw[yg hlt1]at hz1;simp only[y7k]at hz1;refine rS ?_;refine rD 39 ?_;refine AWP.cond rfl (fun hb => ?_) (fun hb => ?_)
  ·simp only[hb,cond_true]at hz1
   refine rS ?_;refine AWP.ret ?_;subst hz1;dsimp only at hR;subst hR;exact es
  ·simp only[hb,cond_false]at hz1
   refine rS ?_;exact⟨_,[],hlt1,wt,hz1,sm⟩
 ·obtain rfl:i1=a0.length:=ot
  rw[yh (Nat.le_refl _)]at hz1;subst hz1;dsimp only at hR;refine AWP.exit ?_;refine yb ?_;refine rS ?_;refine AWP.ret ?_;subst hR;exact es
end N39
def D_zsc : DF
 | [x0,x1]=>some (.bool (zsc (rdL yv x0) (rdI x1)),false,[wL 1 yt yv x0,wI .i64 x1])
 | _=>none
theorem y3y:OkD Tryz.prog 39 D_zsc:=by unfold D_zsc;exact dk N39.den
end Go.Ab
