/- A part of a proof: walks of functions and lemmas of our own. No conditions. -/
import Derived.Test.YtjngmicjnheliaaGreatDoorQAl
import Derived.Test.YtjngmicjnheliaaGreatDoorQAn
import Derived.Test.YtjngmicjnheliaaGreatDoorQAo
set_option linter.unusedSectionVars false
set_option linter.unusedVariables false
set_option linter.unusedSimpArgs false
set_option maxHeartbeats 1000000
namespace Go.Ab
open Go Go.Proofs
def yes (a0:(List Phase)) (i1:Nat) (s1:List (List UInt8)) (i2:Nat) (s2:List (List UInt8)):Except ((List (List UInt8))) (List (List UInt8)):=
 .ok (s2++[(a0.getD i1 default).Color])
def y4s (a0:(List Phase)) (i1:Nat) (s1:List (List UInt8)):Except ((List (List UInt8))) (List (List UInt8)):=
 (match yf (yes a0 i1 s1) (((a0.getD i1 default).Length).toNat-0) 0 s1 with|.error e=>.error e|.ok s2=>.ok s2)
def zh (a0:(List Phase)):(List (List UInt8)):=
 (match yf (y4s a0) (a0.length-0) 0 ([]:List (List UInt8))with|.error e=>e|.ok s1=>s1)
namespace N139
theorem DD:DOk Tryz.prog (Go.Ab.DD []):=ye _
theorem o1 {p:Prop} (h:p:=by(first|(have h9:=hph i1 hlt1;omega));first|done|fail):p:=h
set_option maxHeartbeats 2000000 in
set_option maxRecDepth 20000 in
theorem den (a0:(List Phase)) (hp0:PhOk a0):Den Tryz.prog 139 [encL 2 ym a0] (ownL 9 1 eS (zh a0)):=by
 generalize hR:zh a0=r;unfold zh at hR;refine di Tryz.func139 Tryz.ntmps139 Tryz.results139 ?_;intro c hL hc hk;obtain⟨hL0,_⟩:=hL;have hw0:a0.length<9223372036854775808:=Nat.lt_succ_of_le (yd hL0).1;have hw1:∀ v∈a0,bwPhase v:=fun v hv=>y8 v ((yd hL0).2 v hv)
 clear hL0;simp only[pars,Nat.zero_add];have hph:=fun(i:Nat) (hi:i<a0.length)=>PhOk.at hp0 hi
 have hpl:=hp0.2.1;iterate 3 refine rS ?_
 refine AWP.block ?_;generalize hz1:yf (y4s a0) (a0.length-0) 0 ([]:List (List UInt8))=z1 at hR;refine AWP.range (y4s a0) (fun i1 s1=>⟨[(3,.ref 0 1 0 s1.length),(7,encL 2 ym a0),(8,.int .i64 (a0.length:Int)),(9,.int .i64 (i1:Int))],[.arr 9 1 s1.length (fun j=>eS (s1.getD j default))]⟩) (fun i1 s1=>s1.length<=1000 * i1) (a0.length) 0 ([]:List (List UInt8)) [0] hz1 ot wt sm ?_;clear hz1;intro i1 s1 hi1 hW1 hz1;refine rS ?_;refine AWP.seq ?_;refine AWP.cond rfl (fun hb => ?_) (fun hb => ?_)
 ·have hlt1:i1<a0.length:=ot
  rw[yg hlt1]at hz1;simp only[y4s]at hz1;iterate 2 refine rS ?_
  refine AWP.block ?_;generalize hz2:yf (yes a0 i1 s1) (((a0.getD i1 default).Length).toNat-0) 0 s1=z2 at hz1;refine AWP.range (yes a0 i1 s1) (fun i2 s2=>⟨[(3,.ref 0 1 0 s2.length),(5,.ptr 1 0),(7,encL 2 ym a0),(8,.int .i64 (a0.length:Int)),(9,.int .i64 (i1:Int)),(14,.int .i64 ((a0.getD i1 default).Length)),(15,.int .i64 (i2:Int))],[.arr 9 1 s2.length (fun j=>eS (s2.getD j default)),.box [.str ((a0.getD i1 default).Color),.int .i64 ((a0.getD i1 default).Length)]]⟩) (fun i2 s2=>s2.length<=s1.length+1 * i2/\s2.length<=1000 * i1+i2) (((a0.getD i1 default).Length).toNat) 0 s1 [0,1] hz2 ot (by(have h9:=hW1;exact⟨by omega,by omega⟩)) sm ?_;clear hz2;intro i2 s2 hi2 hW2 hz2;refine rS ?_;refine AWP.seq ?_;refine AWP.cond rfl (fun hb => ?_) (fun hb => ?_)
  ·have hlt2:i2<((a0.getD i1 default).Length).toNat:=ot
   rw[yg hlt2]at hz2;simp only[yes]at hz2;iterate 2 refine rS ?_
   exact⟨_,[3,1],hlt2,wt,hz2,sm⟩
  ·obtain rfl:i2=((a0.getD i1 default).Length).toNat:=ot
   rw[yh (Nat.le_refl _)]at hz2;subst hz2;dsimp only at hz1;refine AWP.exit ?_;refine yc ?_;refine rS ?_;exact⟨_,[0],hlt1,by(have h8:=hph i1 hlt1;first|(have h9:=hW2.2;omega)|(have h9:=hW3.2;omega)),hz1,sm⟩
 ·obtain rfl:i1=a0.length:=ot
  rw[yh (Nat.le_refl _)]at hz1;subst hz1;dsimp only at hR;refine AWP.exit ?_;refine yc ?_;refine rS ?_;refine AWP.ret ?_;subst hR;exact es
end N139
def D_zh : DF
 | [x0]=>some (ownL 9 1 eS (zh (rdL yu x0)),false,[wL 2 ym yu x0,PhOk (rdL yu x0)])
 | _=>none
theorem yuy:OkD Tryz.prog 139 D_zh:=by unfold D_zh;exact dk N139.den
def y3l (a0:(List (List UInt8))) (a1:Int) (i1:Nat) (s1:Unit):Except (Bool) (Unit):=
 (bif ((a0.getD i1 default) != (a0.getD (((IntKind.wrap .i64 ((i1:Int)+a1)).tmod (a0.length:Int)).toNat) default))then .error false else .ok ())
def znc (a0:(List (List UInt8))) (a1:Int):Bool:=
 (match yf (y3l a0 a1) (a0.length-0) 0 ()with|.error e=>e|.ok s1=>true)
namespace N140
theorem DD:DOk Tryz.prog (Go.Ab.DD []):=ye _
theorem o1 {p:Prop} (h:p:=by(first|(have h9:=yqi (a:=IntKind.wrap .i64 ((i1:Int)+a1)) (n:=(a0.length:Int)) (by first|omega|(rw[IntKind.wrap_i64];omega)|(rw[IntKind.wrap_i64,IntKind.wrap_i64];omega)) (by omega);first|exact h9.1|exact h9.2.1|exact⟨h9.1,h9.2.1⟩|omega));first|done|fail):p:=h
set_option maxHeartbeats 2000000 in
set_option maxRecDepth 20000 in
theorem den (a0:(List (List UInt8))) (a1:Int) (hp0:a0.length<=1048576) (hp1:0<=a1) (hp2:a1<=1048576):Den Tryz.prog 140 [encL 1 eS a0,.int .i64 a1] (.bool (znc a0 a1)):=by
 generalize hR:znc a0 a1=r;unfold znc at hR;refine di Tryz.func140 Tryz.ntmps140 Tryz.results140 ?_;intro c hL hc hk;obtain⟨hL0,hL1,_⟩:=hL;have hw0:a0.length<9223372036854775808:=Nat.lt_succ_of_le (yd hL0).1;have hw1:∀ v∈a0,bwS v:=fun v hv=>ydf v ((yd hL0).2 v hv)
 clear hL0 hL1;simp only[pars,Nat.zero_add];iterate 2 refine rS ?_
 refine AWP.block ?_;generalize hz1:yf (y3l a0 a1) (a0.length-0) 0 ()=z1 at hR;refine AWP.range (y3l a0 a1) (fun i1 s1=>⟨[(0,encL 1 eS a0),(1,.int .i64 a1),(7,.int .i64 (a0.length:Int)),(8,.int .i64 (i1:Int))],[]⟩) (fun i1 s1=>True) (a0.length) 0 () [] hz1 ot wt sm ?_;clear hz1;intro i1 s1 hi1 hW1 hz1;refine rS ?_;refine AWP.seq ?_;refine AWP.cond rfl (fun hb => ?_) (fun hb => ?_)
 ·have hlt1:i1<a0.length:=ot
  rw[yg hlt1]at hz1;simp only[y3l]at hz1;refine rS ?_;refine rD 14 ?_;refine AWP.cond rfl (fun hb => ?_) (fun hb => ?_)
  ·simp only[hb,cond_true]at hz1
   refine rS ?_;refine AWP.ret ?_;subst hz1;dsimp only at hR;subst hR;exact es
  ·simp only[hb,cond_false]at hz1
   refine rS ?_;exact⟨_,[],hlt1,wt,hz1,sm⟩
 ·obtain rfl:i1=a0.length:=ot
  rw[yh (Nat.le_refl _)]at hz1;subst hz1;dsimp only at hR;refine AWP.exit ?_;refine yc ?_;refine rS ?_;refine AWP.ret ?_;subst hR;exact es
end N140
def D_znc : DF
 | [x0,x1]=>some (.bool (znc (rdL dS x0) (rdI x1)),false,[wL 1 eS dS x0,wI .i64 x1,(rdL dS x0).length<=1048576,0<=(rdI x1),(rdI x1)<=1048576])
 | _=>none
theorem y1v:OkD Tryz.prog 140 D_znc:=by unfold D_znc;exact dk N140.den
def ybh (a0:(List (List UInt8))) (i1:Nat) (s1:List Phase):Except ((List Phase)) (List Phase):=
 (bif (decide (0<(s1.length:Int)) && (((s1.getD ((IntKind.wrap .i64 ((s1.length:Int)-1)).toNat) default).Color) == (a0.getD i1 default)))then .ok (s1.set ((IntKind.wrap .i64 ((s1.length:Int)-1)).toNat) ({ Color:=(s1.getD ((IntKind.wrap .i64 ((s1.length:Int)-1)).toNat) default).Color,Length:=IntKind.wrap .i64 (((s1.getD ((IntKind.wrap .i64 ((s1.length:Int)-1)).toNat) default).Length)+1):Phase }))else .ok (s1++[{ Color:=(a0.getD i1 default),Length:=1:Phase }]))
def zj (a0:(List (List UInt8))):(List Phase):=
 (match yf (ybh a0) (a0.length-0) 0 ([]:List Phase)with|.error e=>e|.ok s1=>s1)
namespace N84
theorem DD:DOk Tryz.prog (Go.Ab.DD []):=ye _
theorem o2 {p:Prop} (h:p:=by(first|((repeat' with_reducible apply And.intro)<;>first|(simp only[List.length_set];(first|done|fail))|(rw[IntKind.wrap_i64];omega)|(simp only[List.length_set];omega)|(intro j hj;by_cases hji:j=(IntKind.wrap .i64 ((s1.length:Int)-1)).toNat;(focus(rw[<- hji,yyr _ _ _ hj];simp only[beq_self_eq_true,cond_true]));(rw[y0s _ _ _ _ hji];simp only[beq_eq_false_iff_ne.2 hji,cond_false]))|decide)|((repeat' with_reducible apply And.intro)<;>first|(simp only[List.length_append,List.length_singleton];(first|done|fail))|(rw[IntKind.wrap_i64];omega)|(intro j hj;by_cases hji:j<s1.length;(focus(simp only[y6g hji,yhn hji,cond_true];first|(first|done|fail)|with_reducible rfl));(have e0:j-s1.length=0:=by omega);(simp only[ysh hji hj,y0n hji,cond_false,e0,elt,borrowL,borrow];first|(first|done|fail)|with_reducible rfl))|decide));first|done|fail):p:=h
set_option maxHeartbeats 2000000 in
set_option maxRecDepth 20000 in
theorem den (a0:(List (List UInt8))) (hp0:a0.length<=1048576):Den Tryz.prog 84 [encL 1 eS a0] (ownL 105 2 ym (zj a0)):=by
 generalize hR:zj a0=r;unfold zj at hR;refine di Tryz.func84 Tryz.ntmps84 Tryz.results84 ?_;intro c hL hc hk;obtain⟨hL0,_⟩:=hL;have hw0:a0.length<9223372036854775808:=Nat.lt_succ_of_le (yd hL0).1;have hw1:∀ v∈a0,bwS v:=fun v hv=>ydf v ((yd hL0).2 v hv)
 clear hL0;simp only[pars,Nat.zero_add];iterate 3 refine rS ?_
 refine AWP.block ?_;generalize hz1:yf (ybh a0) (a0.length-0) 0 ([]:List Phase)=z1 at hR;refine AWP.range (ybh a0) (fun i1 s1=>⟨[(3,.ref 0 2 0 s1.length),(8,encL 1 eS a0),(9,.int .i64 (a0.length:Int)),(10,.int .i64 (i1:Int))],[.arr 105 2 s1.length (fun j=>ym (s1.getD j default))]⟩) (fun i1 s1=>s1.length<=([]:List Phase).length+1 * i1/\s1.length<=i1) (a0.length) 0 ([]:List Phase) [0] hz1 ot wt sm ?_;clear hz1;intro i1 s1 hi1 hW1 hz1;refine rS ?_;refine AWP.seq ?_;refine AWP.cond rfl (fun hb => ?_) (fun hb => ?_)
 ·have hlt1:i1<a0.length:=ot
  rw[yg hlt1]at hz1;simp only[ybh]at hz1;iterate 3 refine rS ?_
  refine AWP.cond rfl (fun hb => ?_) (fun hb => ?_)
  ·simp only[hb,cond_true]at hz1
   refine rS ?_;refine AWP.exit ?_;refine yc ?_;refine rS ?_;exact⟨_,[0],hlt1,wt,hz1,sm⟩
  ·simp only[hb,cond_false]at hz1
   iterate 2 refine rS ?_
   exact⟨_,[2],hlt1,wt,hz1,sm⟩
 ·obtain rfl:i1=a0.length:=ot
  rw[yh (Nat.le_refl _)]at hz1;subst hz1;dsimp only at hR;refine AWP.exit ?_;refine yc ?_;refine rS ?_;refine AWP.ret ?_;subst hR;exact es
end N84
def D_zj : DF
 | [x0]=>some (ownL 105 2 ym (zj (rdL dS x0)),false,[wL 1 eS dS x0,(rdL dS x0).length<=1048576])
 | _=>none
theorem yby:OkD Tryz.prog 84 D_zj:=by unfold D_zj;exact dk N84.den
def zqd (a0:(List (List UInt8))) (a1:Int):(List (List UInt8)):=
 (zsb [subL a0 ((a1).toNat) (a0.length-(a1).toNat),subL a0 0 ((a1).toNat)])
namespace N121
theorem DD:DOk Tryz.prog (Go.Ab.DD [(141,dP D_zsb)]):=ya yyt.e <| ye _
theorem dn:type_of% (@D_zsb.eq_1):=by and_intros<;>intros<;>rfl
theorem o0 {p:Prop} (h:p:=by(first|(refine⟨⟨hp1,hp2,Int.le_refl _⟩,⟨Int.le_refl _,hp1,hp2⟩,⟨yvm a0 1 (fun s:List UInt8=>[AV.str s]) _ _,yzo a0 1 (fun s:List UInt8=>[AV.str s]) _⟩,?_⟩;intro v hv;simp only[List.mem_cons,List.not_mem_nil,or_false]at hv;rcases hv with rfl|rfl<;>(rw[yjb];omega)));first|done|fail):p:=h
theorem o1 {p:Prop} (h:p:=by(first|(intro v hv;simp only[List.mem_cons,List.not_mem_nil,or_false]at hv;rcases hv with rfl|rfl<;>(rw[yjb];omega))|(simp only[List.length_cons,List.length_nil];omega));first|done|fail):p:=h
theorem lx {p:Prop} (h:p:=by(exact lxx);first|done|fail):p:=h
set_option maxHeartbeats 2000000 in
set_option maxRecDepth 20000 in
theorem den (a0:(List (List UInt8))) (a1:Int) (hp0:a0.length<=1048576) (hp1:0<=a1) (hp2:a1<=(a0.length:Int)):Den Tryz.prog 121 [encL 1 eS a0,.int .i64 a1] (ownL 9 1 eS (zqd a0 a1)):=by
 generalize hR:zqd a0 a1=r;unfold zqd at hR;refine di Tryz.func121 Tryz.ntmps121 Tryz.results121 ?_;intro c hL hc hk;obtain⟨hL0,hL1,_⟩:=hL;have hw0:a0.length<9223372036854775808:=Nat.lt_succ_of_le (yd hL0).1;have hw1:∀ v∈a0,bwS v:=fun v hv=>ydf v ((yd hL0).2 v hv)
 clear hL0 hL1;simp only[pars,Nat.zero_add];refine rS ?_;refine rD 6 ?_;refine AWP.ret ?_;subst hR;exact es
end N121
def D_zqd : DF
 | [x0,x1]=>some (ownL 9 1 eS (zqd (rdL dS x0) (rdI x1)),false,[wL 1 eS dS x0,wI .i64 x1,(rdL dS x0).length<=1048576,0<=(rdI x1),(rdI x1)<=((rdL dS x0).length:Int)])
 | _=>none
theorem yuu:OkD Tryz.prog 121 D_zqd:=by unfold D_zqd;exact dk N121.den
def zze (a0:Int) (a1:Int):Int:=
 (if IntKind.wrap .i64 (a0-a1)<IntKind.wrap .i64 (a1-a0)then IntKind.wrap .i64 (a1-a0)else IntKind.wrap .i64 (a0-a1))
namespace N124
theorem DD:DOk Tryz.prog (Go.Ab.DD []):=ye _
theorem den (a0:Int) (a1:Int)  : Den Tryz.prog 124 [.int .i64 a0,.int .i64 a1] (.int .i64 (zze a0 a1)):=by
 generalize hR:zze a0 a1=r;unfold zze at hR;refine di Tryz.func124 Tryz.ntmps124 Tryz.results124 ?_;intro c hL hc hk;clear hL;simp only[pars,Nat.zero_add];iterate 2 refine rS ?_
 refine AWP.ret ?_;subst hR;exact es
end N124
def D_zze : DF
 | [x0,x1]=>some (.int .i64 (zze (rdI x0) (rdI x1)),false,[wI .i64 x0,wI .i64 x1])
 | _=>none
theorem y9v:OkD Tryz.prog 124 D_zze:=by unfold D_zze;exact dk N124.den
def zrd (a0:Phase) (a1:Phase) (a2:Int):Bool:=
 ((a0.Color == a1.Color) && decide ((zze a0.Length a1.Length)<=a2))
namespace N89
theorem DD:DOk Tryz.prog (Go.Ab.DD [(124,dP D_zze)]):=ya y9v.e <| ye _
theorem dn:type_of% (@D_zze.eq_1):=by and_intros<;>intros<;>rfl
theorem den (a0:Phase) (a1:Phase) (a2:Int)  : Den Tryz.prog 89 [.agg (ym a0),.agg (ym a1),.int .i64 a2] (.bool (zrd a0 a1 a2)):=by
 generalize hR:zrd a0 a1 a2=r;unfold zrd at hR;refine di Tryz.func89 Tryz.ntmps89 Tryz.results89 ?_;intro c hL hc hk;obtain⟨hL0,hL1,hL2,_⟩:=hL;have hw0:bwPhase a0:=y8 a0 hL0;have hw1:bwPhase a1:=y8 a1 hL1;clear hL0 hL1 hL2;simp only[pars,Nat.zero_add];iterate 2 refine rS ?_
 refine AWP.ret ?_;subst hR;exact es
end N89
def D_zrd : DF
 | [x0,x1,x2]=>some (.bool (zrd (rdG yu x0) (rdG yu x1) (rdI x2)),false,[wG ym yu x0,wG ym yu x1,wI .i64 x2])
 | _=>none
theorem ylu:OkD Tryz.prog 89 D_zrd:=by unfold D_zrd;exact dk N89.den
def zif (a0:Phase) (a1:Phase) (a2:Int):Bool:=
 (zrd a0 a1 a2)
namespace N88
theorem DD:DOk Tryz.prog (Go.Ab.DD [(89,dP D_zrd)]):=ya ylu.e <| ye _
theorem dn:type_of% (@D_zrd.eq_1):=by and_intros<;>intros<;>rfl
theorem den (a0:Phase) (a1:Phase) (a2:Int)  : Den Tryz.prog 88 [.agg (ym a0),.agg (ym a1),.ep (yq a2)] (.bool (zif a0 a1 a2)):=by
 generalize hR:zif a0 a1 a2=r;unfold zif at hR;refine di Tryz.func88 Tryz.ntmps88 Tryz.results88 ?_;intro c hL hc hk;obtain⟨hL0,hL1,hL2,_⟩:=hL;have hw0:bwPhase a0:=y8 a0 hL0;have hw1:bwPhase a1:=y8 a1 hL1;clear hL0 hL1 hL2;simp only[pars,Nat.zero_add];iterate 2 refine rS ?_
 refine AWP.ret ?_;subst hR;exact es
end N88
def D_zif : DF
 | [x0,x1,x2]=>some (.bool (zif (rdG yu x0) (rdG yu x1) (rdP ynb x2)),false,[wG ym yu x0,wG ym yu x1,wP yq ynb x2])
 | _=>none
theorem ynv:OkD Tryz.prog 88 D_zif:=by unfold D_zif;exact dk N88.den
def y6l (a0:(List Phase)) (a1:(List Phase)) (a2:Int) (i1:Nat) (s1:Unit):Except (Bool) (Unit):=
 (bif (!(zif (a0.getD i1 default) (a1.getD i1 default) a2))then .error false else .ok ())
def zxb (a0:(List Phase)) (a1:(List Phase)) (a2:Int):Bool:=
 (bif ((a0.length:Int) != (a1.length:Int))then false else(match yf (y6l a0 a1 a2) (a0.length-0) 0 ()with|.error e=>e|.ok s1=>true))
namespace N_zxb
theorem DD:DOk Tryz.prog (Go.Ab.DD [(88,dP D_zif)]):=ya ynv.e <| ye _
theorem dn:type_of% (@D_zif.eq_1):=by and_intros<;>intros<;>rfl
theorem den (a0:(List Phase)) (a1:(List Phase)) (a2:Int)  : Den Tryz.prog 87 [encL 2 ym a0,encL 2 ym a1,.fn 88 0 [.ep (yq a2)]] (.bool (zxb a0 a1 a2)):=by
 generalize hR:zxb a0 a1 a2=r;unfold zxb at hR;refine di Tryz.func87 Tryz.ntmps87 Tryz.results87 ?_;intro c hL hc hk;obtain⟨hL0,hL1,hL2,_⟩:=hL;have hw0:a0.length<9223372036854775808:=Nat.lt_succ_of_le (yd hL0).1;have hw1:∀ v∈a0,bwPhase v:=fun v hv=>y8 v ((yd hL0).2 v hv)
 have hw2:a1.length<9223372036854775808:=Nat.lt_succ_of_le (yd hL1).1;have hw3:∀ v∈a1,bwPhase v:=fun v hv=>y8 v ((yd hL1).2 v hv)
 clear hL0 hL1 hL2;simp only[pars,Nat.zero_add];iterate 2 refine rS ?_
 refine AWP.cond rfl (fun hb => ?_) (fun hb => ?_)
 ·replace hR:=ct hR
  refine rS ?_;refine AWP.ret ?_;subst hR;exact es
 ·replace hR:=cf hR
  refine rS ?_;refine AWP.block ?_;generalize hz1:yf (y6l a0 a1 a2) (a0.length-0) 0 ()=z1 at hR;refine AWP.range (y6l a0 a1 a2) (fun i1 s1=>⟨[(1,encL 2 ym a1),(2,.fn 88 0 [.ep (yq a2)]),(15,encL 2 ym a0),(16,.int .i64 (a0.length:Int)),(17,.int .i64 (i1:Int))],[]⟩) (fun i1 s1=>True) (a0.length) 0 () [] hz1 ot wt sm ?_;clear hz1;intro i1 s1 hi1 hW1 hz1;refine rS ?_;refine AWP.seq ?_;refine AWP.cond rfl (fun hb => ?_) (fun hb => ?_)
  ·have hlt1:i1<a0.length:=ot
   rw[yg hlt1]at hz1;simp only[y6l]at hz1;iterate 3 refine rS ?_
   refine AWP.cond rfl (fun hb => ?_) (fun hb => ?_)
   ·simp only[hb,cond_true]at hz1
    refine rS ?_;refine AWP.ret ?_;subst hz1;dsimp only at hR;subst hR;exact es
   ·simp only[hb,cond_false]at hz1
    refine rS ?_;exact⟨_,[],hlt1,wt,hz1,sm⟩
  ·obtain rfl:i1=a0.length:=ot
   rw[yh (Nat.le_refl _)]at hz1;subst hz1;dsimp only at hR;refine AWP.exit ?_;refine yc ?_;refine rS ?_;refine AWP.ret ?_;subst hR;exact es
end N_zxb
def D_zxb : DF
 | [x0,x1,(.fn f88_3 kf88_3 [y2])]=>some (.bool (zxb (rdL yu x0) (rdL yu x1) (rdP ynb y2)),false,[wL 2 ym yu x0,wL 2 ym yu x1,y2=.ep (yq (rdP ynb y2)),f88_3=88,kf88_3=0])
 | _=>none
theorem ytu:OkD Tryz.prog 87 D_zxb:=by
 intro xs r z ob h ho;unfold D_zxb at h;split at h
 ·simp only[Option.some.injEq,Prod.mk.injEq]at h
  obtain⟨rfl,rfl,rfl⟩:=h;obtain⟨h0,h1,qy2,qf88_3,qkf88_3,_⟩:=ho;exact Den.sim (N_zxb.den _ _ _ ) (yeb (y2i h0).1 <| yeb (y2i h1).1 <| yeb (by subst qf88_3 qkf88_3;rw[<- qy2];exact ytd _) <| trivial) (yfb (y2i h0).2 <| yfb (y2i h1).2 <| yfb (by rw[qy2];rfl) <| rfl) rfl
 ·cases h
def zd (a0:Int) (a1:Int) (a2:Int):Bool:=
 (decide (a1<=a0) && decide (a0<=a2))
namespace N47
theorem DD:DOk Tryz.prog (Go.Ab.DD []):=ye _
theorem den (a0:Int) (a1:Int) (a2:Int)  : Den Tryz.prog 47 [.int .i64 a0,.int .i64 a1,.int .i64 a2] (.bool (zd a0 a1 a2)):=by
 generalize hR:zd a0 a1 a2=r;unfold zd at hR;refine di Tryz.func47 Tryz.ntmps47 Tryz.results47 ?_;intro c hL hc hk;clear hL;simp only[pars,Nat.zero_add];iterate 2 refine rS ?_
 refine AWP.ret ?_;subst hR;exact es
end N47
def D_zd : DF
 | [x0,x1,x2]=>some (.bool (zd (rdI x0) (rdI x1) (rdI x2)),false,[wI .i64 x0,wI .i64 x1,wI .i64 x2])
 | _=>none
theorem yfc:OkD Tryz.prog 47 D_zd:=by unfold D_zd;exact dk N47.den
def zfc (a0:Int) (a1:Int):Bool:=
 decide (a0<=a1)
namespace N69
theorem DD:DOk Tryz.prog (Go.Ab.DD []):=ye _
theorem den (a0:Int) (a1:Int)  : Den Tryz.prog 69 [.int .i64 a0,.int .i64 a1] (.bool (zfc a0 a1)):=by
 generalize hR:zfc a0 a1=r;unfold zfc at hR;refine di Tryz.func69 Tryz.ntmps69 Tryz.results69 ?_;intro c hL hc hk;clear hL;simp only[pars,Nat.zero_add];iterate 2 refine rS ?_
 refine AWP.ret ?_;subst hR;exact es
end N69
def D_zfc : DF
 | [x0,x1]=>some (.bool (zfc (rdI x0) (rdI x1)),false,[wI .i64 x0,wI .i64 x1])
 | _=>none
theorem y1j:OkD Tryz.prog 69 D_zfc:=by unfold D_zfc;exact dk N69.den
def yal (a0:(List Int)) (i1:Nat) (s1:Int):Except (Bool) (Int):=
 (bif (!(zd (a0.getD i1 default) 1 9))then .error false else .ok (IntKind.wrap .i64 (s1+(a0.getD i1 default))))
def zgc (a0:(List Int)):Bool:=
 (match yf (yal a0) (a0.length-0) 0 0 with|.error e=>e|.ok s1=>(((zfc (a0.length:Int) 4) && decide (s1<=12)) && (!(zlb a0 ([1]:List Int)))))
namespace N112
theorem DD:DOk Tryz.prog (Go.Ab.DD [(113,dP D_zlb),(47,dP D_zd),(69,dP D_zfc)]):=ya yto.e <| ya yfc.e <| ya y1j.e <| ye _
theorem dn:type_of% (And.intro @D_zlb.eq_1 <| And.intro @D_zd.eq_1 <| @D_zfc.eq_1):=by and_intros<;>intros<;>rfl
theorem ol:type_of% (@zd.eq_1):=@zd.eq_1
theorem den (a0:(List Int))  : Den Tryz.prog 112 [encL 1 yq a0] (.bool (zgc a0)):=by
 generalize hR:zgc a0=r;unfold zgc at hR;refine di Tryz.func112 Tryz.ntmps112 Tryz.results112 ?_;intro c hL hc hk;obtain⟨hL0,_⟩:=hL;have hw0:a0.length<9223372036854775808:=Nat.lt_succ_of_le (yd hL0).1;clear hL0;simp only[pars,Nat.zero_add];iterate 3 refine rS ?_
 refine AWP.block ?_;generalize hz1:yf (yal a0) (a0.length-0) 0 0=z1 at hR;refine AWP.range (yal a0) (fun i1 s1=>⟨[(0,encL 1 yq a0),(3,.int .i64 s1),(6,encL 1 yq a0),(7,.int .i64 (a0.length:Int)),(8,.int .i64 (i1:Int))],[]⟩) (fun i1 s1=>True) (a0.length) 0 0 [] hz1 ot wt sm ?_;clear hz1;intro i1 s1 hi1 hW1 hz1;refine rS ?_;refine AWP.seq ?_;refine AWP.cond rfl (fun hb => ?_) (fun hb => ?_)
 ·have hlt1:i1<a0.length:=ot
  rw[yg hlt1]at hz1;simp only[yal]at hz1;iterate 2 refine rS ?_
  refine AWP.cond rfl (fun hb => ?_) (fun hb => ?_)
  ·simp only[hb,cond_true]at hz1
   refine rS ?_;refine AWP.ret ?_;subst hz1;dsimp only at hR;subst hR;exact es
  ·simp only[hb,cond_false]at hz1
   iterate 2 refine rS ?_
   exact⟨_,[],hlt1,wt,hz1,sm⟩
 ·obtain rfl:i1=a0.length:=ot
  rw[yh (Nat.le_refl _)]at hz1;subst hz1;dsimp only at hR;refine AWP.exit ?_;refine yc ?_;refine rS ?_;refine AWP.ret ?_;subst hR;exact es
end N112
def D_zgc : DF
 | [x0]=>some (.bool (zgc (rdL ynb x0)),false,[wL 1 yq ynb x0])
 | _=>none
theorem ymv:OkD Tryz.prog 112 D_zgc:=by unfold D_zgc;exact dk N112.den
def zfb (a0:(List UInt8)):(List UInt8):=
 (bif ((((a0.length:Int) != 1) || Op.bytesLess a0 [65]) || !(Op.bytesLess a0 [90] || a0 == [90]))then[]else([[46,45],[45,46,46,46],[45,46,45,46],[45,46,46],[46],[46,46,45,46],[45,45,46],[46,46,46,46],[46,46],[46,45,45,45],[45,46,45],[46,45,46,46],[45,45],[45,46],[45,45,45],[46,45,45,46],[45,45,46,45],[46,45,46],[46,46,46],[45],[46,46,45],[46,46,46,45],[46,45,45],[45,46,46,45],[45,46,45,45],[45,45,46,46]]:List (List UInt8)).getD ((IntKind.wrap .u8 (((a0.getD 0 0).toNat:Int)-65)).toNat) [])
namespace N114
theorem DD:DOk Tryz.prog (Go.Ab.DD []):=ye _
theorem o0 {p:Prop} (h:p:=by(first|(simp only[Bool.or_eq_false_iff,Bool.not_eq_false',Bool.or_eq_true,bne_eq_false_iff_eq]at hb;have h9:=y2v a0 hb;have h8:=hb.1.1;and_intros<;>omega));first|done|fail):p:=h
theorem den (a0:(List UInt8))  : Den Tryz.prog 114 [.str a0] (.str (zfb a0)):=by
 generalize hR:zfb a0=r;unfold zfb at hR;refine di Tryz.func114 Tryz.ntmps114 Tryz.results114 ?_;intro c hL hc hk;obtain⟨hL0,_⟩:=hL;have hw0:a0.length<9223372036854775808:=Nat.lt_succ_of_le hL0;clear hL0;simp only[pars,Nat.zero_add];iterate 2 refine rS ?_
 refine AWP.cond rfl (fun hb => ?_) (fun hb => ?_)
 ·replace hR:=ct hR
  refine rS ?_;refine AWP.ret ?_;subst hR;exact es
 ·replace hR:=cf hR
  refine rS ?_;refine AWP.ret ?_;subst hR;exact es
end N114
def D_zfb : DF
 | [x0]=>some (.str (zfb (rdS x0)),false,[wS x0])
 | _=>none
theorem y7n:OkD Tryz.prog 114 D_zfb:=by unfold D_zfb;exact dk N114.den
def zcb (a0:Character):Bool:=
 (bif (a0.Kind == 1)then(((a0.Group.length:Int) == 0) && (a0.Letter == []))else(bif (a0.Kind == 3)then(((a0.Group.length:Int) == 0) && (a0.Letter == []))else(bif (a0.Kind == 2)then((a0.Letter == []) && (zgc a0.Group))else(bif (a0.Kind == 4)then((a0.Letter == []) && (zgc a0.Group))else(bif (a0.Kind == 5)then((a0.Letter == []) && (zgc a0.Group))else(bif (a0.Kind == 6)then(bif (a0.Letter == [])then(((a0.Group.length:Int) == 0) || (((a0.Group.length:Int) == 1) && (zd (a0.Group.getD 0 default) 2 9)))else((a0.Letter == [76]) && (zlb a0.Group ([6]:List Int))))else(bif (a0.Kind == 7)then(bif (a0.Letter == [])then(((a0.Group.length:Int) == 0) || (((a0.Group.length:Int) == 1) && (zd (a0.Group.getD 0 default) 2 9)))else((a0.Letter == [76]) && (zlb a0.Group ([6]:List Int))))else(bif (a0.Kind == 8)then(((zfb a0.Letter) != []) && ((a0.Group.length:Int) == 0))else false))))))))
namespace N77
theorem DD:DOk Tryz.prog (Go.Ab.DD [(112,dP D_zgc),(113,dP D_zlb),(114,dP D_zfb),(47,dP D_zd)]):=ya ymv.e <| ya yto.e <| ya y7n.e <| ya yfc.e <| ye _
theorem dn:type_of% (And.intro @D_zgc.eq_1 <| And.intro @D_zlb.eq_1 <| And.intro @D_zfb.eq_1 <| @D_zd.eq_1):=by and_intros<;>intros<;>rfl
theorem ol:type_of% (@zd.eq_1):=@zd.eq_1
theorem den (a0:Character)  : Den Tryz.prog 77 [.agg (eCharacter a0)] (.bool (zcb a0)):=by
 generalize hR:zcb a0=r;unfold zcb at hR;refine di Tryz.func77 Tryz.ntmps77 Tryz.results77 ?_;intro c hL hc hk;obtain⟨hL0,_⟩:=hL;have hw0:bwCharacter a0:=yj a0 hL0;clear hL0;simp only[pars,Nat.zero_add];iterate 3 refine rS ?_
 refine AWP.cond rfl (fun hb => ?_) (fun hb => ?_)
 ·replace hR:=ct hR
  refine AWP.skip ?_;refine AWP.cond rfl (fun hb => ?_) (fun hb => ?_)
  ·refine rS ?_
   refine AWP.ret ?_;subst hR;exact es
  ·exfalso;simp_all
 ·replace hR:=cf hR
  refine rS ?_;refine AWP.cond rfl (fun hb => ?_) (fun hb => ?_)
  ·replace hR:=ct hR
   refine rS ?_;refine AWP.ret ?_;subst hR;exact es
  ·replace hR:=cf hR
   refine rS ?_;refine AWP.cond rfl (fun hb => ?_) (fun hb => ?_)
   ·replace hR:=ct hR
    refine AWP.skip ?_;refine AWP.cond rfl (fun hb => ?_) (fun hb => ?_)
    ·refine rS ?_
     refine AWP.ret ?_;subst hR;exact es
    ·exfalso;simp_all
   ·replace hR:=cf hR
    refine rS ?_;refine AWP.cond rfl (fun hb => ?_) (fun hb => ?_)
    ·replace hR:=ct hR
     refine AWP.skip ?_;refine AWP.cond rfl (fun hb => ?_) (fun hb => ?_)
     ·refine rS ?_
      refine AWP.ret ?_;subst hR;exact es
     ·exfalso;simp_all
    ·replace hR:=cf hR
     refine rS ?_;refine AWP.cond rfl (fun hb => ?_) (fun hb => ?_)
     ·replace hR:=ct hR
      refine rS ?_;refine AWP.ret ?_;subst hR;exact es
     ·replace hR:=cf hR
      refine rS ?_;refine AWP.cond rfl (fun hb => ?_) (fun hb => ?_)
      ·replace hR:=ct hR
       refine AWP.skip ?_;refine AWP.cond rfl (fun hb => ?_) (fun hb => ?_)
       ·refine rS ?_
        refine AWP.cond rfl (fun hb => ?_) (fun hb => ?_)
        ·replace hR:=ct hR
         refine rS ?_;refine AWP.ret ?_;subst hR;exact es
        ·replace hR:=cf hR
         refine rS ?_;refine AWP.ret ?_;subst hR;exact es
       ·exfalso;simp_all
      ·replace hR:=cf hR
       refine rS ?_;refine AWP.cond rfl (fun hb => ?_) (fun hb => ?_)
       ·replace hR:=ct hR
        refine rS ?_;refine AWP.cond rfl (fun hb => ?_) (fun hb => ?_)
        ·replace hR:=ct hR
         refine rS ?_;refine AWP.ret ?_;subst hR;exact es
        ·replace hR:=cf hR
         refine rS ?_;refine AWP.ret ?_;subst hR;exact es
       ·replace hR:=cf hR
        refine rS ?_;refine AWP.cond rfl (fun hb => ?_) (fun hb => ?_)
        ·replace hR:=ct hR
         refine rS ?_;refine AWP.ret ?_;subst hR;exact es
        ·replace hR:=cf hR
         refine rS ?_;refine AWP.ret ?_;subst hR;exact es
end N77
def D_zcb : DF
 | [x0]=>some (.bool (zcb (rdG yb x0)),false,[wG eCharacter yb x0])
 | _=>none
theorem yrv:OkD Tryz.prog 77 D_zcb:=by unfold D_zcb;exact dk N77.den
theorem yqg (a:List UInt8):zfb a=if a.length=1/\65<=(a.getD 0 0).toNat/\(a.getD 0 0).toNat<=90 then yac.getD ((a.getD 0 0).toNat-65) []else[]:=by
 unfold zfb;by_cases h1:a.length=1
 ·have c1:((a.length:Int) != 1)=false:=by rw[h1];rfl
  rw[c1,ykf a 65 h1,ykf a 90 h1,y9r a 90 h1];have e1:(65:UInt8).toNat=65:=rfl;have e2:(90:UInt8).toNat=90:=rfl;rw[e1,e2];by_cases h2:65<=(a.getD 0 0).toNat/\(a.getD 0 0).toNat<=90
  ·rw[if_pos ⟨h1,h2⟩,decide_eq_false (by omega)]
   have c2:(decide ((a.getD 0 0).toNat<90) || decide ((a.getD 0 0).toNat=90))=true:=by
    rw[Bool.or_eq_true,decide_eq_true_eq,decide_eq_true_eq];omega
   rw[c2];simp only[Bool.or_self,Bool.not_true,cond_false];rw[ygh _ (by omega) (by omega),show((((a.getD 0 0).toNat:Int)-65).toNat)=(a.getD 0 0).toNat-65 by omega];rfl
  ·rw[if_neg (fun h=>h2 h.2)]
   by_cases h3:(a.getD 0 0).toNat<65
   ·rw[decide_eq_true h3];rfl
   ·have c2:(decide ((a.getD 0 0).toNat<90) || decide ((a.getD 0 0).toNat=90))=false:=by
     rw[decide_eq_false (by omega),decide_eq_false (by omega)];rfl
    rw[c2,decide_eq_false h3];rfl
 ·have c1:((a.length:Int) != 1)=true:=by rw[bne_iff_ne];omega
  rw[c1,if_neg (fun h=>h1 h.1)];rfl
theorem yor (a:List UInt8):(zfb a).length<=4:=by
 rw[yqg];split
 ·exact yci _
 ·simp
theorem ysn (a:List UInt8):∀ x∈zfb a,x.toNat<128:=by
 intro x hx;rw[yqg]at hx;split at hx
 ·rw[List.getD_eq_getElem?_getD]at hx
  cases h:yac[(a.getD 0 0).toNat-65]? with
  | none=>rw[h]at hx;simp at hx
  | some y=>
   rw[h]at hx;rcases(y6e y (List.mem_of_getElem? h)).2.2 x hx with e|e<;>subst e<;>decide
 ·simp at hx
def yti (a0:(List UInt8)) (i1:Nat) (s1:Int):Except (Bool) (Int):=
 (bif decide ((zkd [87,82,71,89] ((a0.getD i1 0).toNat:Int))<=s1)then .error false else .ok (zkd [87,82,71,89] ((a0.getD i1 0).toNat:Int)))
def ztb (a0:(List UInt8)):Bool:=
 (match yf (yti a0) (a0.length-0) 0 (-1)with|.error e=>e|.ok s1=>(zd (a0.length:Int) 1 3))
namespace N76
theorem DD:DOk Tryz.prog (Go.Ab.DD [(111,dP D_zkd),(47,dP D_zd)]):=ya y5v.e <| ya yfc.e <| ye _
theorem dn:type_of% (And.intro @D_zkd.eq_1 <| @D_zd.eq_1):=by and_intros<;>intros<;>rfl
theorem ol:type_of% (@zd.eq_1):=@zd.eq_1
theorem den (a0:(List UInt8))  : Den Tryz.prog 76 [.str a0] (.bool (ztb a0)):=by
 generalize hR:ztb a0=r;unfold ztb at hR;refine di Tryz.func76 Tryz.ntmps76 Tryz.results76 ?_;intro c hL hc hk;obtain⟨hL0,_⟩:=hL;have hw0:a0.length<9223372036854775808:=Nat.lt_succ_of_le hL0;clear hL0;simp only[pars,Nat.zero_add];iterate 3 refine rS ?_
 refine AWP.block ?_;generalize hz1:yf (yti a0) (a0.length-0) 0 (-1)=z1 at hR;refine AWP.range (yti a0) (fun i1 s1=>⟨[(0,.str a0),(3,.int .i64 s1),(4,.int .i64 (i1:Int))],[]⟩) (fun i1 s1=>True) (a0.length) 0 (-1) [] hz1 ot wt sm ?_;clear hz1;intro i1 s1 hi1 hW1 hz1;refine rS ?_;refine AWP.cond rfl (fun hb => ?_) (fun hb => ?_)
 ·have hlt1:i1<a0.length:=ot
  rw[yg hlt1]at hz1;simp only[yti]at hz1;iterate 2 refine rS ?_
  refine AWP.cond rfl (fun hb => ?_) (fun hb => ?_)
  ·simp only[hb,cond_true]at hz1
   refine rS ?_;refine AWP.ret ?_;subst hz1;dsimp only at hR;subst hR;exact es
  ·simp only[hb,cond_false]at hz1
   iterate 2 refine rS ?_
   exact⟨_,[],hlt1,wt,hz1,sm⟩
 ·obtain rfl:i1=a0.length:=ot
  rw[yh (Nat.le_refl _)]at hz1;subst hz1;dsimp only at hR;refine AWP.exit ?_;refine yc ?_;refine rS ?_;refine AWP.ret ?_;subst hR;exact es
end N76
def D_ztb : DF
 | [x0]=>some (.bool (ztb (rdS x0)),false,[wS x0])
 | _=>none
theorem ywv:OkD Tryz.prog 76 D_ztb:=by unfold D_ztb;exact dk N76.den
def zjf (a0:Int):Bool:=
 ((a0 == 6) || (a0 == 7))
namespace N115
theorem DD:DOk Tryz.prog (Go.Ab.DD []):=ye _
theorem den (a0:Int)  : Den Tryz.prog 115 [.int .i64 a0] (.bool (zjf a0)):=by
 generalize hR:zjf a0=r;unfold zjf at hR;refine di Tryz.func115 Tryz.ntmps115 Tryz.results115 ?_;intro c hL hc hk;clear hL;simp only[pars,Nat.zero_add];iterate 2 refine rS ?_
 refine AWP.ret ?_;subst hR;exact es
end N115
def D_zjf : DF
 | [x0]=>some (.bool (zjf (rdI x0)),false,[wI .i64 x0])
 | _=>none
theorem yhw:OkD Tryz.prog 115 D_zjf:=by unfold D_zjf;exact dk N115.den
def zgb (a0:Character):Bool:=
 ((a0.Kind == 1) || ((zjf a0.Kind) && ((a0.Group.length:Int) == 0)))
namespace N78
theorem DD:DOk Tryz.prog (Go.Ab.DD [(115,dP D_zjf)]):=ya yhw.e <| ye _
theorem dn:type_of% (@D_zjf.eq_1):=by and_intros<;>intros<;>rfl
theorem den (a0:Character)  : Den Tryz.prog 78 [.agg (eCharacter a0)] (.bool (zgb a0)):=by
 generalize hR:zgb a0=r;unfold zgb at hR;refine di Tryz.func78 Tryz.ntmps78 Tryz.results78 ?_;intro c hL hc hk;obtain⟨hL0,_⟩:=hL;have hw0:bwCharacter a0:=yj a0 hL0;clear hL0;simp only[pars,Nat.zero_add];iterate 2 refine rS ?_
 refine AWP.ret ?_;subst hR;exact es
end N78
def D_zgb : DF
 | [x0]=>some (.bool (zgb (rdG yb x0)),false,[wG eCharacter yb x0])
 | _=>none
theorem ypj:OkD Tryz.prog 78 D_zgb:=by unfold D_zgb;exact dk N78.den
def zg (a0:Int):(Int×Int×Int):=
 (bif (a0 == 2)then(10,10,15)else(bif (a0 == 4)then(5,15,20)else(bif (a0 == 5)then(20,20,25)else(bif (a0 == 6)then(5,5,20)else(bif (a0 == 7)then(2,3,10)else(bif (a0 == 8)then(5,5,30)else(0,0,0)))))))
namespace N90
theorem DD:DOk Tryz.prog (Go.Ab.DD []):=ye _
theorem den (a0:Int)  : Den Tryz.prog 90 [.int .i64 a0] (.tup [.int .i64 ((zg a0).1),.int .i64 ((zg a0).2.1),.int .i64 ((zg a0).2.2)]):=by
 generalize hR:zg a0=r;unfold zg at hR;refine di Tryz.func90 Tryz.ntmps90 Tryz.results90 ?_;intro c hL hc hk;clear hL;simp only[pars,Nat.zero_add];iterate 3 refine rS ?_
 refine AWP.cond rfl (fun hb => ?_) (fun hb => ?_)
 ·replace hR:=ct hR
  refine rS ?_;refine AWP.ret ?_;subst hR;exact es
 ·replace hR:=cf hR
  refine rS ?_;refine AWP.cond rfl (fun hb => ?_) (fun hb => ?_)
  ·replace hR:=ct hR
   refine rS ?_;refine AWP.ret ?_;subst hR;exact es
  ·replace hR:=cf hR
   refine rS ?_;refine AWP.cond rfl (fun hb => ?_) (fun hb => ?_)
   ·replace hR:=ct hR
    refine rS ?_;refine AWP.ret ?_;subst hR;exact es
   ·replace hR:=cf hR
    refine rS ?_;refine AWP.cond rfl (fun hb => ?_) (fun hb => ?_)
    ·replace hR:=ct hR
     refine rS ?_;refine AWP.ret ?_;subst hR;exact es
    ·replace hR:=cf hR
     refine rS ?_;refine AWP.cond rfl (fun hb => ?_) (fun hb => ?_)
     ·replace hR:=ct hR
      refine rS ?_;refine AWP.ret ?_;subst hR;exact es
     ·replace hR:=cf hR
      refine rS ?_;refine AWP.cond rfl (fun hb => ?_) (fun hb => ?_)
      ·replace hR:=ct hR
       refine rS ?_;refine AWP.ret ?_;subst hR;exact es
      ·replace hR:=cf hR
       refine rS ?_;refine AWP.ret ?_;subst hR;exact es
end N90
def D_zg : DF
 | [x0]=>some (.tup [.int .i64 ((zg (rdI x0)).1),.int .i64 ((zg (rdI x0)).2.1),.int .i64 ((zg (rdI x0)).2.2)],false,[wI .i64 x0])
 | _=>none
theorem ytn:OkD Tryz.prog 90 D_zg:=by unfold D_zg;exact dk N90.den
def y5p (a0:Character) (i1:Nat) (s1:List Int):Except ((List Int)) (List Int):=
 (bif decide (0<(i1:Int))then(bif ((((zfb a0.Letter).getD i1 0).toNat:Int) == 45)then .ok ((s1++([(zg a0.Kind).2.1]:List Int))++([IntKind.wrap .i64 (3 * ((zg a0.Kind).1))]:List Int))else .ok ((s1++([(zg a0.Kind).2.1]:List Int))++([(zg a0.Kind).1]:List Int)))else(bif ((((zfb a0.Letter).getD i1 0).toNat:Int) == 45)then .ok (s1++([IntKind.wrap .i64 (3 * ((zg a0.Kind).1))]:List Int))else .ok (s1++([(zg a0.Kind).1]:List Int))))
def yxq (a0:Character) (i2:Nat) (s2:List Int) (i3:Nat) (s3:List Int):Except ((List Int)) (List Int):=
 (bif decide (0<(i3:Int))then .ok ((s3++([(zg a0.Kind).2.1]:List Int))++([(zg a0.Kind).1]:List Int))else(bif decide (0<(i2:Int))then .ok ((s3++([IntKind.wrap .i64 (((zg a0.Kind).2.1)+20)]:List Int))++([(zg a0.Kind).1]:List Int))else .ok (s3++([(zg a0.Kind).1]:List Int))))
def yaq (a0:Character) (i2:Nat) (s2:List Int):Except ((List Int)) (List Int):=
 (match yf (yxq a0 i2 s2) (((([1]:List Int).getD i2 default)).toNat-0) 0 s2 with|.error e=>.error e|.ok s3=>.ok s3)
def yuq (a0:Character) (i4:Nat) (s4:List Int) (i5:Nat) (s5:List Int):Except ((List Int)) (List Int):=
 (bif decide (0<(i5:Int))then .ok ((s5++([(zg a0.Kind).2.1]:List Int))++([(zg a0.Kind).1]:List Int))else(bif decide (0<(i4:Int))then .ok ((s5++([IntKind.wrap .i64 (((zg a0.Kind).2.1)+20)]:List Int))++([(zg a0.Kind).1]:List Int))else .ok (s5++([(zg a0.Kind).1]:List Int))))
def ybq (a0:Character) (i4:Nat) (s4:List Int):Except ((List Int)) (List Int):=
 (match yf (yuq a0 i4 s4) (((a0.Group.getD i4 default)).toNat-0) 0 s4 with|.error e=>.error e|.ok s5=>.ok s5)
def ze (a0:Character):(List Int):=
 (bif (a0.Kind == 8)then(match yf (y5p a0) ((zfb a0.Letter).length-0) 0 ([]:List Int)with|.error e=>e|.ok s1=>s1)else(bif ((a0.Group.length:Int) == 0)then(match yf (yaq a0) (1-0) 0 ([]:List Int)with|.error e=>e|.ok s2=>(bif (a0.Letter != [])then s2++([(zg a0.Kind).2.1,20]:List Int)else s2))else(match yf (ybq a0) (a0.Group.length-0) 0 ([]:List Int)with|.error e=>e|.ok s4=>(bif (a0.Letter != [])then s4++([(zg a0.Kind).2.1,20]:List Int)else s4))))
namespace N91
theorem DD:DOk Tryz.prog (Go.Ab.DD [(114,dP D_zfb),(90,dP D_zg)]):=ya y7n.e <| ya ytn.e <| ye _
theorem dn:type_of% (And.intro @D_zfb.eq_1 <| @D_zg.eq_1):=by and_intros<;>intros<;>rfl
theorem o2 {p:Prop} (h:p:=by(first|(and_intros<;>first|decide|omega|(simp;(first|done|fail))|(rw[IntKind.wrap_i64];have:=hg9 i4;omega)|(rw[IntKind.wrap_i64];have:=hg1 i2;omega)|(rw[IntKind.wrap_i64];omega)|(intro i hi;exact ygk _ _ i hi)|(intro i hi;exact y5k _ _ _ i hi)));first|done|fail):p:=h
theorem o3 {p:Prop} (h:p:=by(first|(refine⟨⟨Nat.le_refl _,fun i hi=>yjl _ _ _ i hi⟩,.inl fun i hi=>by rw[yrg _ _ _ i hi];simp[NoBorL,NoBor],by simp,fun i hi=>by rw[yrg _ _ _ i hi];exact y9 _⟩));first|done|fail):p:=h
theorem lx {p:Prop} (h:p:=by(exact lxx);first|done|fail):p:=h
set_option maxHeartbeats 1000000 in
set_option maxRecDepth 20000 in
theorem den (a0:Character) (hb0:bdCharacter a0) (hp0:a0.Group.length<=4) (hp1:∀ v∈a0.Group,v<=9):Den Tryz.prog 91 [.agg (eCharacter a0)] (ownL 2 1 yq (ze a0)):=by
 generalize hR:ze a0=r;unfold ze at hR;refine di Tryz.func91 Tryz.ntmps91 Tryz.results91 ?_;intro c hL hc hk;obtain⟨hL0,_⟩:=hL;have hw0:bwCharacter a0:=yj a0 hL0;clear hL0;simp only[pars,Nat.zero_add];have hg9:∀ i:Nat,a0.Group.getD i default<=9:=fun i=>ydk hp1 i
 have hs9:=yor a0.Letter;have hs8:=ysn a0.Letter;have hg1:∀ i:Nat,([1]:List Int).getD i default<=9:=fun i=>ydk (by simp) i
 iterate 3 refine rS ?_
 refine AWP.cond rfl (fun hb => ?_) (fun hb => ?_)
 ·replace hR:=ct hR
  iterate 2 refine rS ?_
  refine AWP.block ?_;refine AWP.lensT 27 rfl (fun hLn1 => ?_);generalize hz1:yf (y5p a0) ((zfb a0.Letter).length-0) 0 ([]:List Int)=z1 at hR;refine AWP.range (y5p a0) (fun i1 s1=>⟨[(3,.int .i64 ((zg a0.Kind).1)),(4,.int .i64 ((zg a0.Kind).2.1)),(6,.ref 0 1 0 s1.length),(28,.ptr 1 0)],[.arr 2 1 s1.length (fun j=>yq (s1.getD j default)),.it (zfb a0.Letter) i1 (decide (i1<(zfb a0.Letter).length))]⟩) (fun i1 s1=>s1.length<=([]:List Int).length+2 * i1/\s1.length<=2 * i1) ((zfb a0.Letter).length) 0 ([]:List Int) [1,2] hz1 ot wt sm ?_;clear hz1;intro i1 s1 hi1 hW1 hz1;refine AWP.seq ?_;by_cases hlt1:i1<(zfb a0.Letter).length
  ·rw[yg hlt1]at hz1;simp only[y5p]at hz1
   rw[decide_eq_true hlt1];refine rS ?_;refine AWP.seq ?_;refine AWP.cond rfl (fun hb => ?_) (fun hb=>nomatch hb);iterate 2 refine rS ?_
   refine AWP.cond rfl (fun hb => ?_) (fun hb => ?_)
   ·simp only[hb,cond_true]at hz1
    iterate 2 refine rS ?_
    refine AWP.cond rfl (fun hb => ?_) (fun hb => ?_)
    ·simp only[hb,cond_true]at hz1
     refine rS ?_;exact⟨_,[5,1],hlt1,wt,hz1,sm⟩
    ·simp only[hb,cond_false]at hz1
     refine rS ?_;exact⟨_,[5,1],hlt1,wt,hz1,sm⟩
   ·simp only[hb,cond_false]at hz1
    refine rS ?_;refine AWP.cond rfl (fun hb => ?_) (fun hb => ?_)
    ·simp only[hb,cond_true]at hz1
     refine rS ?_;exact⟨_,[3,1],hlt1,wt,hz1,sm⟩
    ·simp only[hb,cond_false]at hz1
     refine rS ?_;exact⟨_,[3,1],hlt1,wt,hz1,sm⟩
  ·obtain rfl:i1=(zfb a0.Letter).length:=by omega
   rw[yh (Nat.le_refl _)]at hz1;subst hz1;dsimp only at hR;simp only[Nat.lt_irrefl,decide_false];refine rS ?_;refine AWP.seq ?_;refine AWP.cond rfl (fun hb=>nomatch hb) (fun hb => ?_);refine AWP.exit ?_;refine yc ?_;refine rS ?_;refine AWP.ret ?_;subst hR;exact es
 ·replace hR:=cf hR
  iterate 2 refine rS ?_
  refine AWP.cond rfl (fun hb => ?_) (fun hb => ?_)
  ·replace hR:=ct hR
   iterate 3 refine rS ?_
   refine AWP.block ?_;generalize hz2:yf (yaq a0) (1-0) 0 ([]:List Int)=z2 at hR;refine AWP.range (yaq a0) (fun i2 s2=>⟨[(1,.ptr 0 0),(3,.int .i64 ((zg a0.Kind).1)),(4,.int .i64 ((zg a0.Kind).2.1)),(10,.ref 1 1 0 s2.length),(58,.ref 2 1 0 1),(59,.int .i64 1),(60,.int .i64 (i2:Int))],[.box [.int .i64 a0.Kind,encL 1 yq a0.Group,.str a0.Letter,.str a0.Colors,.int .i64 a0.Period],.arr 2 1 s2.length (fun j=>yq (s2.getD j default)),.arr 2 1 ([1]:List Int).length (fun j=>yq (([1]:List Int).getD j default))]⟩) (fun i2 s2=>s2.length<=18 * i2) (1) 0 ([]:List Int) [0,2,1] hz2 ot wt sm ?_;clear hz2;intro i2 s2 hi2 hW2 hz2;refine rS ?_;refine AWP.seq ?_;refine AWP.cond rfl (fun hb => ?_) (fun hb => ?_)
   ·have hlt2:i2<1:=ot
    rw[yg hlt2]at hz2;simp only[yaq]at hz2;iterate 2 refine rS ?_
    refine AWP.block ?_;generalize hz3:yf (yxq a0 i2 s2) (((([1]:List Int).getD i2 default)).toNat-0) 0 s2=z3 at hz2;refine AWP.range (yxq a0 i2 s2) (fun i3 s3=>⟨[(1,.ptr 0 0),(3,.int .i64 ((zg a0.Kind).1)),(4,.int .i64 ((zg a0.Kind).2.1)),(10,.ref 1 1 0 s3.length),(11,.int .i64 (i2:Int)),(58,.ref 2 1 0 1),(59,.int .i64 1),(60,.int .i64 (i2:Int)),(65,.int .i64 (([1]:List Int).getD i2 default)),(66,.int .i64 (i3:Int))],[.box [.int .i64 a0.Kind,encL 1 yq a0.Group,.str a0.Letter,.str a0.Colors,.int .i64 a0.Period],.arr 2 1 s3.length (fun j=>yq (s3.getD j default)),.arr 2 1 ([1]:List Int).length (fun j=>yq (([1]:List Int).getD j default))]⟩) (fun i3 s3=>s3.length<=s2.length+2 * i3/\s3.length<=18 * i2+2 * i3) (((([1]:List Int).getD i2 default)).toNat) 0 s2 [0,1,2] hz3 ot wt sm ?_;clear hz3;intro i3 s3 hi3 hW3 hz3;refine rS ?_;refine AWP.seq ?_;refine AWP.cond rfl (fun hb => ?_) (fun hb => ?_)
    ·have hlt3:i3<((([1]:List Int).getD i2 default)).toNat:=ot
     rw[yg hlt3]at hz3;simp only[yxq]at hz3;iterate 2 refine rS ?_
     refine AWP.cond rfl (fun hb => ?_) (fun hb => ?_)
     ·simp only[hb,cond_true]at hz3
      iterate 3 refine rS ?_
      exact⟨_,[0,6,2],hlt3,wt,hz3,sm⟩
     ·simp only[hb,cond_false]at hz3
      refine rS ?_;refine AWP.cond rfl (fun hb => ?_) (fun hb => ?_)
      ·simp only[hb,cond_true]at hz3
       iterate 3 refine rS ?_
       exact⟨_,[0,6,2],hlt3,wt,hz3,sm⟩
      ·simp only[hb,cond_false]at hz3
       iterate 2 refine rS ?_
       exact⟨_,[0,4,2],hlt3,wt,hz3,sm⟩
    ·obtain rfl:i3=((([1]:List Int).getD i2 default)).toNat:=ot
     rw[yh (Nat.le_refl _)]at hz3;subst hz3;dsimp only at hz2;refine AWP.exit ?_;refine yc ?_;refine rS ?_;exact⟨_,[0,1,2],hlt2,by(have h9:=hg1 i2;omega),hz2,sm⟩
   ·obtain rfl:i2=1:=ot
    rw[yh (Nat.le_refl _)]at hz2;subst hz2;dsimp only at hR;refine AWP.exit ?_;refine yc ?_;refine rS ?_;refine AWP.cond rfl (fun hb => ?_) (fun hb => ?_)
    ·replace hR:=ct hR
     iterate 2 refine rS ?_
     refine AWP.ret ?_;subst hR;exact es
    ·replace hR:=cf hR
     refine rS ?_;refine AWP.ret ?_;subst hR;exact es
  ·replace hR:=cf hR
   iterate 2 refine rS ?_
   refine AWP.block ?_;refine AWP.lensS 9 rfl (fun hLn4 => ?_);generalize hz4:yf (ybq a0) (a0.Group.length-0) 0 ([]:List Int)=z4 at hR;refine AWP.range (ybq a0) (fun i4 s4=>⟨[(1,.ptr 0 0),(3,.int .i64 ((zg a0.Kind).1)),(4,.int .i64 ((zg a0.Kind).2.1)),(10,.ref 1 1 0 s4.length),(58,encL 1 yq a0.Group),(59,.int .i64 (a0.Group.length:Int)),(60,.int .i64 (i4:Int))],[.box [.int .i64 a0.Kind,encL 1 yq a0.Group,.str a0.Letter,.str a0.Colors,.int .i64 a0.Period],.arr 2 1 s4.length (fun j=>yq (s4.getD j default))]⟩) (fun i4 s4=>s4.length<=18 * i4) (a0.Group.length) 0 ([]:List Int) [0,1] hz4 ot wt sm ?_;clear hz4;intro i4 s4 hi4 hW4 hz4;refine rS ?_;refine AWP.seq ?_;refine AWP.cond rfl (fun hb => ?_) (fun hb => ?_)
   ·have hlt4:i4<a0.Group.length:=ot
    rw[yg hlt4]at hz4;simp only[ybq]at hz4;iterate 2 refine rS ?_
    refine AWP.block ?_;generalize hz5:yf (yuq a0 i4 s4) (((a0.Group.getD i4 default)).toNat-0) 0 s4=z5 at hz4;refine AWP.range (yuq a0 i4 s4) (fun i5 s5=>⟨[(1,.ptr 0 0),(3,.int .i64 ((zg a0.Kind).1)),(4,.int .i64 ((zg a0.Kind).2.1)),(10,.ref 1 1 0 s5.length),(11,.int .i64 (i4:Int)),(58,encL 1 yq a0.Group),(59,.int .i64 (a0.Group.length:Int)),(60,.int .i64 (i4:Int)),(65,.int .i64 (a0.Group.getD i4 default)),(66,.int .i64 (i5:Int))],[.box [.int .i64 a0.Kind,encL 1 yq a0.Group,.str a0.Letter,.str a0.Colors,.int .i64 a0.Period],.arr 2 1 s5.length (fun j=>yq (s5.getD j default))]⟩) (fun i5 s5=>s5.length<=s4.length+2 * i5/\s5.length<=18 * i4+2 * i5) (((a0.Group.getD i4 default)).toNat) 0 s4 [0,1] hz5 ot wt sm ?_;clear hz5;intro i5 s5 hi5 hW5 hz5;refine rS ?_;refine AWP.seq ?_;refine AWP.cond rfl (fun hb => ?_) (fun hb => ?_)
    ·have hlt5:i5<((a0.Group.getD i4 default)).toNat:=ot
     rw[yg hlt5]at hz5;simp only[yuq]at hz5;iterate 2 refine rS ?_
     refine AWP.cond rfl (fun hb => ?_) (fun hb => ?_)
     ·simp only[hb,cond_true]at hz5
      iterate 3 refine rS ?_
      exact⟨_,[0,5],hlt5,wt,hz5,sm⟩
     ·simp only[hb,cond_false]at hz5
      refine rS ?_;refine AWP.cond rfl (fun hb => ?_) (fun hb => ?_)
      ·simp only[hb,cond_true]at hz5
       iterate 3 refine rS ?_
       exact⟨_,[0,5],hlt5,wt,hz5,sm⟩
      ·simp only[hb,cond_false]at hz5
       iterate 2 refine rS ?_
       exact⟨_,[0,3],hlt5,wt,hz5,sm⟩
    ·obtain rfl:i5=((a0.Group.getD i4 default)).toNat:=ot
     rw[yh (Nat.le_refl _)]at hz5;subst hz5;dsimp only at hz4;refine AWP.exit ?_;refine yc ?_;refine rS ?_;exact⟨_,[0,1],hlt4,by(have h9:=hg9 i4;omega),hz4,sm⟩
   ·obtain rfl:i4=a0.Group.length:=ot
    rw[yh (Nat.le_refl _)]at hz4;subst hz4;dsimp only at hR;refine AWP.exit ?_;refine yc ?_;refine rS ?_;refine AWP.cond rfl (fun hb => ?_) (fun hb => ?_)
    ·replace hR:=ct hR
     iterate 2 refine rS ?_
     refine AWP.ret ?_;subst hR;exact es
    ·replace hR:=cf hR
     refine rS ?_;refine AWP.ret ?_;subst hR;exact es
end N91
def D_ze : DF
 | [x0]=>some (ownL 2 1 yq (ze (rdG yb x0)),false,[wG eCharacter yb x0,bdCharacter (rdG yb x0),(rdG yb x0).Group.length<=4,∀ v∈(rdG yb x0).Group,v<=9])
 | _=>none
theorem yct:OkD Tryz.prog 91 D_ze:=by unfold D_ze;exact dk N91.den
def y9o (a0:(List Int)) (i1:Nat) (s1:Int):Except (Int) (Int):=
 .ok (IntKind.wrap .i64 (s1+(a0.getD i1 default)))
def zyb (a0:(List Int)):Int:=
 (match yf (y9o a0) (a0.length-0) 0 0 with|.error e=>e|.ok s1=>s1)
namespace N92
theorem DD:DOk Tryz.prog (Go.Ab.DD []):=ye _
theorem den (a0:(List Int))  : Den Tryz.prog 92 [encL 1 yq a0] (.int .i64 (zyb a0)):=by
 generalize hR:zyb a0=r;unfold zyb at hR;refine di Tryz.func92 Tryz.ntmps92 Tryz.results92 ?_;intro c hL hc hk;obtain⟨hL0,_⟩:=hL;have hw0:a0.length<9223372036854775808:=Nat.lt_succ_of_le (yd hL0).1;clear hL0;simp only[pars,Nat.zero_add];iterate 3 refine rS ?_
 refine AWP.block ?_;generalize hz1:yf (y9o a0) (a0.length-0) 0 0=z1 at hR;refine AWP.range (y9o a0) (fun i1 s1=>⟨[(3,.int .i64 s1),(6,encL 1 yq a0),(7,.int .i64 (a0.length:Int)),(8,.int .i64 (i1:Int))],[]⟩) (fun i1 s1=>True) (a0.length) 0 0 [] hz1 ot wt sm ?_;clear hz1;intro i1 s1 hi1 hW1 hz1;refine rS ?_;refine AWP.seq ?_;refine AWP.cond rfl (fun hb => ?_) (fun hb => ?_)
 ·have hlt1:i1<a0.length:=ot
  rw[yg hlt1]at hz1;simp only[y9o]at hz1;iterate 3 refine rS ?_
  exact⟨_,[],hlt1,wt,hz1,sm⟩
 ·obtain rfl:i1=a0.length:=ot
  rw[yh (Nat.le_refl _)]at hz1;subst hz1;dsimp only at hR;refine AWP.exit ?_;refine yc ?_;refine rS ?_;refine AWP.ret ?_;subst hR;exact es
end N92
def D_zyb : DF
 | [x0]=>some (.int .i64 (zyb (rdL ynb x0)),false,[wL 1 yq ynb x0])
 | _=>none
theorem yho:OkD Tryz.prog 92 D_zyb:=by unfold D_zyb;exact dk N92.den
def zqe (a0:Character):Int:=
 (bif (zgb a0)then 0 else(bif (a0.Kind == 3)then 20 else(bif decide (1<(a0.Group.length:Int))then IntKind.wrap .i64 ((zyb (ze a0))+(IntKind.wrap .i64 (((zg a0.Kind).2.2)+20)))else IntKind.wrap .i64 ((zyb (ze a0))+((zg a0.Kind).2.2)))))
namespace N79
theorem DD:DOk Tryz.prog (Go.Ab.DD [(78,dP D_zgb),(90,dP D_zg),(91,dP D_ze),(92,dP D_zyb)]):=ya ypj.e <| ya ytn.e <| ya yct.e <| ya yho.e <| ye _
theorem dn:type_of% (And.intro @D_zgb.eq_1 <| And.intro @D_zg.eq_1 <| And.intro @D_ze.eq_1 <| @D_zyb.eq_1):=by and_intros<;>intros<;>rfl
theorem den (a0:Character) (hb0:bdCharacter a0) (hp0:a0.Group.length<=4) (hp1:∀ v∈a0.Group,v<=9):Den Tryz.prog 79 [.agg (eCharacter a0)] (.int .i64 (zqe a0)):=by
 generalize hR:zqe a0=r;unfold zqe at hR;refine di Tryz.func79 Tryz.ntmps79 Tryz.results79 ?_;intro c hL hc hk;obtain⟨hL0,_⟩:=hL;have hw0:bwCharacter a0:=yj a0 hL0;clear hL0;simp only[pars,Nat.zero_add];iterate 2 refine rS ?_
 refine AWP.cond rfl (fun hb => ?_) (fun hb => ?_)
 ·replace hR:=ct hR
  refine rS ?_;refine AWP.ret ?_;subst hR;exact es
 ·replace hR:=cf hR
  refine rS ?_;refine AWP.cond rfl (fun hb => ?_) (fun hb => ?_)
  ·replace hR:=ct hR
   refine rS ?_;refine AWP.ret ?_;subst hR;exact es
  ·replace hR:=cf hR
   iterate 2 refine rS ?_
   refine AWP.cond rfl (fun hb => ?_) (fun hb => ?_)
   ·replace hR:=ct hR
    iterate 2 refine rS ?_
    refine AWP.ret ?_;subst hR;exact es
   ·replace hR:=cf hR
    refine rS ?_;refine AWP.ret ?_;subst hR;exact es
end N79
def D_zqe : DF
 | [x0]=>some (.int .i64 (zqe (rdG yb x0)),false,[wG eCharacter yb x0,bdCharacter (rdG yb x0),(rdG yb x0).Group.length<=4,∀ v∈(rdG yb x0).Group,v<=9])
 | _=>none
theorem y5u:OkD Tryz.prog 79 D_zqe:=by unfold D_zqe;exact dk N79.den
def zaf (a0:Int):Bool:=
 (zd a0 0 359)
namespace N116
theorem DD:DOk Tryz.prog (Go.Ab.DD [(47,dP D_zd)]):=ya yfc.e <| ye _
theorem dn:type_of% (@D_zd.eq_1):=by and_intros<;>intros<;>rfl
theorem ol:type_of% (@zd.eq_1):=@zd.eq_1
theorem den (a0:Int)  : Den Tryz.prog 116 [.int .i64 a0] (.bool (zaf a0)):=by
 generalize hR:zaf a0=r;unfold zaf at hR;refine di Tryz.func116 Tryz.ntmps116 Tryz.results116 ?_;intro c hL hc hk;clear hL;simp only[pars,Nat.zero_add];iterate 2 refine rS ?_
 refine AWP.ret ?_;subst hR;exact es
end N116
def D_zaf : DF
 | [x0]=>some (.bool (zaf (rdI x0)),false,[wI .i64 x0])
 | _=>none
theorem yqt:OkD Tryz.prog 116 D_zaf:=by unfold D_zaf;exact dk N116.den
def zre (a0:(List UInt8)):Bool:=
 (((a0.length:Int) == 1) && (zt [87,82,71,89] a0))
namespace N117
theorem DD:DOk Tryz.prog (Go.Ab.DD [(52,dP D_zt)]):=ya y9j.e <| ye _
theorem dn:type_of% (@D_zt.eq_1):=by and_intros<;>intros<;>rfl
theorem den (a0:(List UInt8))  : Den Tryz.prog 117 [.str a0] (.bool (zre a0)):=by
 generalize hR:zre a0=r;unfold zre at hR;refine di Tryz.func117 Tryz.ntmps117 Tryz.results117 ?_;intro c hL hc hk;obtain⟨hL0,_⟩:=hL;have hw0:a0.length<9223372036854775808:=Nat.lt_succ_of_le hL0;clear hL0;simp only[pars,Nat.zero_add];iterate 2 refine rS ?_
 refine AWP.ret ?_;subst hR;exact es
end N117
def D_zre : DF
 | [x0]=>some (.bool (zre (rdS x0)),false,[wS x0])
 | _=>none
theorem yvt:OkD Tryz.prog 117 D_zre:=by unfold D_zre;exact dk N117.den
def zse (a0:Sector):Bool:=
 (((zaf a0.From) && (zaf a0.To)) && (zre a0.Color))
namespace N80
theorem DD:DOk Tryz.prog (Go.Ab.DD [(116,dP D_zaf),(117,dP D_zre)]):=ya yqt.e <| ya yvt.e <| ye _
theorem dn:type_of% (And.intro @D_zaf.eq_1 <| @D_zre.eq_1):=by and_intros<;>intros<;>rfl
theorem den (a0:Sector)  : Den Tryz.prog 80 [.agg (eSector a0)] (.bool (zse a0)):=by
 generalize hR:zse a0=r;unfold zse at hR;refine di Tryz.func80 Tryz.ntmps80 Tryz.results80 ?_;intro c hL hc hk;obtain⟨hL0,_⟩:=hL;have hw0:bwSector a0:=yr a0 hL0;clear hL0;simp only[pars,Nat.zero_add];iterate 2 refine rS ?_
 refine AWP.ret ?_;subst hR;exact es
end N80
def D_zse : DF
 | [x0]=>some (.bool (zse (rdG yp x0)),false,[wG eSector yp x0])
 | _=>none
theorem ytv:OkD Tryz.prog 80 D_zse:=by unfold D_zse;exact dk N80.den
end Go.Ab
