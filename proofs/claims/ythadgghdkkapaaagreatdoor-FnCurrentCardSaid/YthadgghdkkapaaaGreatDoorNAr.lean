/- A part of a proof: walks of functions and lemmas of our own. No conditions. -/
import Derived.Test.YthadgghdkkapaaaGreatDoorNAl
import Derived.Test.YthadgghdkkapaaaGreatDoorNAn
set_option linter.unusedSectionVars false
set_option linter.unusedVariables false
set_option linter.unusedSimpArgs false
set_option maxHeartbeats 1000000
namespace Go.Ab
open Go Go.Proofs
def zbe (a0:Int):Bool:=
 (decide (97<=a0) && decide (a0<=122))
namespace N166
theorem DD:DOk Tryz.prog (Go.Ab.DD []):=ye _
theorem den (a0:Int)  : Den Tryz.prog 166 [.int .u8 a0] (.bool (zbe a0)):=by
 generalize hR:zbe a0=r;unfold zbe at hR;refine di Tryz.func166 Tryz.ntmps166 Tryz.results166 ?_;intro c hL hc hk;clear hL;simp only[pars,Nat.zero_add];iterate 2 refine rS ?_
 refine AWP.ret ?_;subst hR;exact es
end N166
def D_zbe : DF
 | [x0]=>some (.bool (zbe (rdI x0)),false,[wI .u8 x0])
 | _=>none
theorem yyv:OkD Tryz.prog 166 D_zbe:=by unfold D_zbe;exact dk N166.den
def zgf (a0:Int):Bool:=
 (decide (48<=a0) && decide (a0<=57))
namespace N167
theorem DD:DOk Tryz.prog (Go.Ab.DD []):=ye _
theorem den (a0:Int)  : Den Tryz.prog 167 [.int .u8 a0] (.bool (zgf a0)):=by
 generalize hR:zgf a0=r;unfold zgf at hR;refine di Tryz.func167 Tryz.ntmps167 Tryz.results167 ?_;intro c hL hc hk;clear hL;simp only[pars,Nat.zero_add];iterate 2 refine rS ?_
 refine AWP.ret ?_;subst hR;exact es
end N167
def D_zgf : DF
 | [x0]=>some (.bool (zgf (rdI x0)),false,[wI .u8 x0])
 | _=>none
theorem y6v:OkD Tryz.prog 167 D_zgf:=by unfold D_zgf;exact dk N167.den
def ypq (a0:(List UInt8)) (i1:Nat) (s1:Unit):Except (Bool) (Unit):=
 (bif ((!(zbe ((a0.getD i1 0).toNat:Int))) && (!(zgf ((a0.getD i1 0).toNat:Int))))then .error false else .ok ())
def zxb (a0:(List UInt8)):Bool:=
 (bif (((a0 == []) || decide (10<(a0.length:Int))) || (!(zbe ((a0.getD 0 0).toNat:Int))))then false else(match yh (ypq a0) (a0.length-0) 0 ()with|.error e=>e|.ok s1=>true))
namespace N116
theorem DD:DOk Tryz.prog (Go.Ab.DD [(166,dP D_zbe),(167,dP D_zgf)]):=ya yyv.e <| ya y6v.e <| ye _
theorem dn:type_of% (And.intro @D_zbe.eq_1 <| @D_zgf.eq_1):=by and_intros<;>intros<;>rfl
theorem den (a0:(List UInt8))  : Den Tryz.prog 116 [.str a0] (.bool (zxb a0)):=by
 generalize hR:zxb a0=r;unfold zxb at hR;refine di Tryz.func116 Tryz.ntmps116 Tryz.results116 ?_;intro c hL hc hk;obtain⟨hL0,_⟩:=hL;have hw0:a0.length<9223372036854775808:=Nat.lt_succ_of_le hL0;clear hL0;simp only[pars,Nat.zero_add];iterate 2 refine rS ?_
 refine AWP.cond rfl (fun hb => ?_) (fun hb => ?_)
 ·replace hR:=ct hR
  refine rS ?_;refine AWP.ret ?_;subst hR;exact es
 ·replace hR:=cf hR
  refine rS ?_;refine AWP.block ?_;generalize hz1:yh (ypq a0) (a0.length-0) 0 ()=z1 at hR;refine AWP.range (ypq a0) (fun i1 s1=>⟨[(0,.str a0),(3,.int .i64 (i1:Int))],[]⟩) (fun i1 s1=>True) (a0.length) 0 () [] hz1 ot wt sm ?_;clear hz1;intro i1 s1 hi1 hW1 hz1;refine rS ?_;refine AWP.cond rfl (fun hb => ?_) (fun hb => ?_)
  ·have hlt1:i1<a0.length:=ot
   rw[yp hlt1]at hz1;simp only[ypq]at hz1;refine rS ?_;refine AWP.cond rfl (fun hb => ?_) (fun hb => ?_)
   ·simp only[hb,cond_true]at hz1
    refine rS ?_;refine AWP.ret ?_;subst hz1;dsimp only at hR;subst hR;exact es
   ·simp only[hb,cond_false]at hz1
    refine rS ?_;exact⟨_,[],hlt1,wt,hz1,sm⟩
  ·obtain rfl:i1=a0.length:=ot
   rw[yn (Nat.le_refl _)]at hz1;subst hz1;dsimp only at hR;refine AWP.exit ?_;refine yd ?_;refine rS ?_;refine AWP.ret ?_;subst hR;exact es
end N116
def D_zxb : DF
 | [x0]=>some (.bool (zxb (rdS x0)),false,[wS x0])
 | _=>none
theorem yiw:OkD Tryz.prog 116 D_zxb:=by unfold D_zxb;exact dk N116.den
def ysl (a0:(List Int)) (i1:Nat) (s1:Int):Except (Int) (Int):=
 .ok (IntKind.wrap .i64 (s1+(a0.getD i1 default)))
def zwd (a0:(List Int)):Int:=
 (bif ((a0.length:Int) == 0)then 1 else(match yh (ysl a0) (a0.length-0) 0 0 with|.error e=>e|.ok s1=>s1))
namespace N270
theorem DD:DOk Tryz.prog (Go.Ab.DD []):=ye _
theorem den (a0:(List Int))  : Den Tryz.prog 270 [encL 1 yu a0] (.int .i64 (zwd a0)):=by
 generalize hR:zwd a0=r;unfold zwd at hR;refine di Tryz.func270 Tryz.ntmps270 Tryz.results270 ?_;intro c hL hc hk;obtain⟨hL0,_⟩:=hL;have hw0:a0.length<9223372036854775808:=Nat.lt_succ_of_le (yb hL0).1;clear hL0;simp only[pars,Nat.zero_add];iterate 2 refine rS ?_
 refine AWP.cond rfl (fun hb => ?_) (fun hb => ?_)
 ·replace hR:=ct hR
  refine rS ?_;refine AWP.ret ?_;subst hR;exact es
 ·replace hR:=cf hR
  iterate 2 refine rS ?_
  refine AWP.block ?_;generalize hz1:yh (ysl a0) (a0.length-0) 0 0=z1 at hR;refine AWP.range (ysl a0) (fun i1 s1=>⟨[(0,encL 1 yu a0),(3,.int .i64 s1),(4,.int .i64 (i1:Int))],[]⟩) (fun i1 s1=>True) (a0.length) 0 0 [] hz1 ot wt sm ?_;clear hz1;intro i1 s1 hi1 hW1 hz1;refine rS ?_;refine AWP.cond rfl (fun hb => ?_) (fun hb => ?_)
  ·have hlt1:i1<a0.length:=ot
   rw[yp hlt1]at hz1;simp only[ysl]at hz1;iterate 2 refine rS ?_
   exact⟨_,[],hlt1,wt,hz1,sm⟩
  ·obtain rfl:i1=a0.length:=ot
   rw[yn (Nat.le_refl _)]at hz1;subst hz1;dsimp only at hR;refine AWP.exit ?_;refine yd ?_;refine rS ?_;refine AWP.ret ?_;subst hR;exact es
end N270
def D_zwd : DF
 | [x0]=>some (.int .i64 (zwd (rdL yhb x0)),false,[wL 1 yu yhb x0])
 | _=>none
theorem y6x:OkD Tryz.prog 270 D_zwd:=by unfold D_zwd;exact dk N270.den
def zf (a0:Int) (a1:Int) (a2:Int):Bool:=
 (decide (a1<=a0) && decide (a0<=a2))
namespace N81
theorem DD:DOk Tryz.prog (Go.Ab.DD []):=ye _
theorem den (a0:Int) (a1:Int) (a2:Int)  : Den Tryz.prog 81 [.int .i64 a0,.int .i64 a1,.int .i64 a2] (.bool (zf a0 a1 a2)):=by
 generalize hR:zf a0 a1 a2=r;unfold zf at hR;refine di Tryz.func81 Tryz.ntmps81 Tryz.results81 ?_;intro c hL hc hk;clear hL;simp only[pars,Nat.zero_add];iterate 2 refine rS ?_
 refine AWP.ret ?_;subst hR;exact es
end N81
def D_zf : DF
 | [x0,x1,x2]=>some (.bool (zf (rdI x0) (rdI x1) (rdI x2)),false,[wI .i64 x0,wI .i64 x1,wI .i64 x2])
 | _=>none
theorem yyd:OkD Tryz.prog 81 D_zf:=by unfold D_zf;exact dk N81.den
def ysm (a0:(List Int)) (i1:Nat) (s1:Unit):Except (Bool) (Unit):=
 (bif (!(zf (a0.getD i1 default) 1 9))then .error false else .ok ())
def zmb (a0:(List Int)):Bool:=
 (match yh (ysm a0) (a0.length-0) 0 ()with|.error e=>e|.ok s1=>((decide ((a0.length:Int)<=4) && (!(((a0.length:Int) == 1) && ((a0.getD 0 default) == 1)))) && decide ((zwd a0)<=12)))
namespace N226
theorem DD:DOk Tryz.prog (Go.Ab.DD [(270,dP D_zwd),(81,dP D_zf)]):=ya y6x.e <| ya yyd.e <| ye _
theorem dn:type_of% (And.intro @D_zwd.eq_1 <| @D_zf.eq_1):=by and_intros<;>intros<;>rfl
theorem ol:type_of% (@zf.eq_1):=@zf.eq_1
theorem den (a0:(List Int))  : Den Tryz.prog 226 [encL 1 yu a0] (.bool (zmb a0)):=by
 generalize hR:zmb a0=r;unfold zmb at hR;refine di Tryz.func226 Tryz.ntmps226 Tryz.results226 ?_;intro c hL hc hk;obtain⟨hL0,_⟩:=hL;have hw0:a0.length<9223372036854775808:=Nat.lt_succ_of_le (yb hL0).1;clear hL0;simp only[pars,Nat.zero_add];iterate 2 refine rS ?_
 refine AWP.block ?_;generalize hz1:yh (ysm a0) (a0.length-0) 0 ()=z1 at hR;refine AWP.range (ysm a0) (fun i1 s1=>⟨[(0,encL 1 yu a0),(3,.int .i64 (i1:Int))],[]⟩) (fun i1 s1=>True) (a0.length) 0 () [] hz1 ot wt sm ?_;clear hz1;intro i1 s1 hi1 hW1 hz1;refine rS ?_;refine AWP.cond rfl (fun hb => ?_) (fun hb => ?_)
 ·have hlt1:i1<a0.length:=ot
  rw[yp hlt1]at hz1;simp only[ysm]at hz1;refine rS ?_;refine AWP.cond rfl (fun hb => ?_) (fun hb => ?_)
  ·simp only[hb,cond_true]at hz1
   refine rS ?_;refine AWP.ret ?_;subst hz1;dsimp only at hR;subst hR;exact es
  ·simp only[hb,cond_false]at hz1
   refine rS ?_;exact⟨_,[],hlt1,wt,hz1,sm⟩
 ·obtain rfl:i1=a0.length:=ot
  rw[yn (Nat.le_refl _)]at hz1;subst hz1;dsimp only at hR;refine AWP.exit ?_;refine yd ?_;refine rS ?_;refine AWP.ret ?_;subst hR;exact es
end N226
def D_zmb : DF
 | [x0]=>some (.bool (zmb (rdL yhb x0)),false,[wL 1 yu yhb x0])
 | _=>none
theorem y8p:OkD Tryz.prog 226 D_zmb:=by unfold D_zmb;exact dk N226.den
def zke (a0:Int):Int:=
 (bif (a0 == 87)then 1 else(bif (a0 == 82)then 2 else(bif (a0 == 71)then 3 else(bif (a0 == 89)then 4 else 0))))
namespace N269
theorem DD:DOk Tryz.prog (Go.Ab.DD []):=ye _
theorem den (a0:Int)  : Den Tryz.prog 269 [.int .u8 a0] (.int .i64 (zke a0)):=by
 generalize hR:zke a0=r;unfold zke at hR;refine di Tryz.func269 Tryz.ntmps269 Tryz.results269 ?_;intro c hL hc hk;clear hL;simp only[pars,Nat.zero_add];iterate 3 refine rS ?_
 refine AWP.cond rfl (fun hb => ?_) (fun hb => ?_)
 ·replace hR:=ct hR
  refine rS ?_;refine AWP.ret ?_;subst hR;exact es
 ·replace hR:=cf hR
  refine rS ?_;refine AWP.cond rfl (fun hb => ?_) (fun hb => ?_)
  ·replace hR:=ct hR
   refine rS ?_;refine AWP.ret ?_;subst hR;exact es
  ·replace hR:=cf hR
   refine rS ?_;refine AWP.cond rfl (fun hb => ?_) (fun hb => ?_)
   ·replace hR:=ct hR
    refine rS ?_;refine AWP.ret ?_;subst hR;exact es
   ·replace hR:=cf hR
    refine rS ?_;refine AWP.cond rfl (fun hb => ?_) (fun hb => ?_)
    ·replace hR:=ct hR
     refine rS ?_;refine AWP.ret ?_;subst hR;exact es
    ·replace hR:=cf hR
     refine rS ?_;refine AWP.ret ?_;subst hR;exact es
end N269
def D_zke : DF
 | [x0]=>some (.int .i64 (zke (rdI x0)),false,[wI .u8 x0])
 | _=>none
theorem ysy:OkD Tryz.prog 269 D_zke:=by unfold D_zke;exact dk N269.den
def yak (a0:(List UInt8)) (i1:Nat) (s1:Unit):Except (Bool) (Unit):=
 (bif (((zke ((a0.getD i1 0).toNat:Int)) == 0) || (decide (0<(i1:Int)) && decide ((zke ((a0.getD i1 0).toNat:Int))<=(zke ((a0.getD ((IntKind.wrap .i64 ((i1:Int)-1)).toNat) 0).toNat:Int)))))then .error false else .ok ())
def zpb (a0:(List UInt8)):Bool:=
 (match yh (yak a0) (a0.length-0) 0 ()with|.error e=>e|.ok s1=>(decide (1<=(a0.length:Int)) && decide ((a0.length:Int)<=3)))
namespace N225
theorem DD:DOk Tryz.prog (Go.Ab.DD [(269,dP D_zke)]):=ya ysy.e <| ye _
theorem dn:type_of% (@D_zke.eq_1):=by and_intros<;>intros<;>rfl
theorem den (a0:(List UInt8))  : Den Tryz.prog 225 [.str a0] (.bool (zpb a0)):=by
 generalize hR:zpb a0=r;unfold zpb at hR;refine di Tryz.func225 Tryz.ntmps225 Tryz.results225 ?_;intro c hL hc hk;obtain⟨hL0,_⟩:=hL;have hw0:a0.length<9223372036854775808:=Nat.lt_succ_of_le hL0;clear hL0;simp only[pars,Nat.zero_add];iterate 2 refine rS ?_
 refine AWP.block ?_;generalize hz1:yh (yak a0) (a0.length-0) 0 ()=z1 at hR;refine AWP.range (yak a0) (fun i1 s1=>⟨[(0,.str a0),(3,.int .i64 (i1:Int))],[]⟩) (fun i1 s1=>True) (a0.length) 0 () [] hz1 ot wt sm ?_;clear hz1;intro i1 s1 hi1 hW1 hz1;refine rS ?_;refine AWP.cond rfl (fun hb => ?_) (fun hb => ?_)
 ·have hlt1:i1<a0.length:=ot
  rw[yp hlt1]at hz1;simp only[yak]at hz1;refine rD 21 ?_;refine AWP.cond rfl (fun hb => ?_) (fun hb => ?_)
  ·simp only[hb,cond_true]at hz1
   refine rS ?_;refine AWP.ret ?_;subst hz1;dsimp only at hR;subst hR;exact es
  ·simp only[hb,cond_false]at hz1
   refine rS ?_;exact⟨_,[],hlt1,wt,hz1,sm⟩
 ·obtain rfl:i1=a0.length:=ot
  rw[yn (Nat.le_refl _)]at hz1;subst hz1;dsimp only at hR;refine AWP.exit ?_;refine yd ?_;refine rS ?_;refine AWP.ret ?_;subst hR;exact es
end N225
def D_zpb : DF
 | [x0]=>some (.bool (zpb (rdS x0)),false,[wS x0])
 | _=>none
theorem ynw:OkD Tryz.prog 225 D_zpb:=by unfold D_zpb;exact dk N225.den
def zhf (a0:Int):Bool:=
 (zf a0 1 8)
namespace N224
theorem DD:DOk Tryz.prog (Go.Ab.DD [(81,dP D_zf)]):=ya yyd.e <| ye _
theorem dn:type_of% (@D_zf.eq_1):=by and_intros<;>intros<;>rfl
theorem ol:type_of% (@zf.eq_1):=@zf.eq_1
theorem den (a0:Int)  : Den Tryz.prog 224 [.int .i64 a0] (.bool (zhf a0)):=by
 generalize hR:zhf a0=r;unfold zhf at hR;refine di Tryz.func224 Tryz.ntmps224 Tryz.results224 ?_;intro c hL hc hk;clear hL;simp only[pars,Nat.zero_add];iterate 2 refine rS ?_
 refine AWP.ret ?_;subst hR;exact es
end N224
def D_zhf : DF
 | [x0]=>some (.bool (zhf (rdI x0)),false,[wI .i64 x0])
 | _=>none
theorem y8x:OkD Tryz.prog 224 D_zhf:=by unfold D_zhf;exact dk N224.den
def zsc (a0:Character):Bool:=
 (bif ((!(zhf a0.Kind)) || (!(zpb a0.Colors)))then false else(bif (a0.Kind == 1)then(((a0.Group.length:Int) == 0) && (a0.Letter == []))else(bif (a0.Kind == 3)then(((a0.Group.length:Int) == 0) && (a0.Letter == []))else(bif (a0.Kind == 6)then(bif (a0.Letter == [76])then(((a0.Group.length:Int) == 1) && ((a0.Group.getD 0 default) == 6))else(((a0.Letter == []) && decide ((a0.Group.length:Int)<=1)) && (zmb a0.Group)))else(bif (a0.Kind == 7)then(bif (a0.Letter == [76])then(((a0.Group.length:Int) == 1) && ((a0.Group.getD 0 default) == 6))else(((a0.Letter == []) && decide ((a0.Group.length:Int)<=1)) && (zmb a0.Group)))else(bif (a0.Kind == 8)then(((((a0.Group.length:Int) == 0) && ((a0.Letter.length:Int) == 1)) && decide (65<=((a0.Letter.getD 0 0).toNat:Int))) && decide (((a0.Letter.getD 0 0).toNat:Int)<=90))else((a0.Letter == []) && (zmb a0.Group))))))))
namespace N169
theorem DD:DOk Tryz.prog (Go.Ab.DD [(224,dP D_zhf),(225,dP D_zpb),(226,dP D_zmb)]):=ya y8x.e <| ya ynw.e <| ya y8p.e <| ye _
theorem dn:type_of% (And.intro @D_zhf.eq_1 <| And.intro @D_zpb.eq_1 <| @D_zmb.eq_1):=by and_intros<;>intros<;>rfl
theorem den (a0:Character)  : Den Tryz.prog 169 [.ep (yl a0)] (.bool (zsc a0)):=by
 generalize hR:zsc a0=r;unfold zsc at hR;refine di Tryz.func169 Tryz.ntmps169 Tryz.results169 ?_;intro c hL hc hk;obtain⟨hL0,_⟩:=hL;have hw0:bwCharacter a0:=yw a0 hL0;clear hL0;simp only[pars,Nat.zero_add];iterate 2 refine rS ?_
 refine AWP.cond rfl (fun hb => ?_) (fun hb => ?_)
 ·replace hR:=ct hR
  refine rS ?_;refine AWP.ret ?_;subst hR;exact es
 ·replace hR:=cf hR
  iterate 2 refine rS ?_
  refine AWP.cond rfl (fun hb => ?_) (fun hb => ?_)
  ·replace hR:=ct hR
   refine AWP.skip ?_;refine AWP.cond rfl (fun hb => ?_) (fun hb => ?_)
   ·refine rS ?_
    refine AWP.ret ?_;subst hR;exact es
   ·exfalso;simp_all
  ·replace hR:=cf hR
   refine rS ?_;refine AWP.cond rfl (fun hb => ?_) (fun hb => ?_)
   ·replace hR:=ct hR
    refine rS ?_;refine AWP.ret ?_;subst hR;exact es
   ·replace hR:=cf hR
    refine rS ?_;refine AWP.cond rfl (fun hb => ?_) (fun hb => ?_)
    ·replace hR:=ct hR
     refine AWP.skip ?_;refine AWP.cond rfl (fun hb => ?_) (fun hb => ?_)
     ·refine rS ?_
      refine AWP.cond rfl (fun hb => ?_) (fun hb => ?_)
      ·replace hR:=ct hR
       refine rS ?_;refine AWP.ret ?_;subst hR;exact es
      ·replace hR:=cf hR
       refine rS ?_;refine AWP.ret ?_;subst hR;exact es
     ·exfalso;simp_all
    ·replace hR:=cf hR
     refine rS ?_;refine AWP.cond rfl (fun hb => ?_) (fun hb => ?_)
     ·replace hR:=ct hR
      refine rS ?_;refine AWP.cond rfl (fun hb => ?_) (fun hb => ?_)
      ·replace hR:=ct hR
       refine rS ?_;refine AWP.ret ?_;subst hR;exact es
      ·replace hR:=cf hR
       refine rS ?_;refine AWP.ret ?_;subst hR;exact es
     ·replace hR:=cf hR
      refine rS ?_;refine AWP.cond rfl (fun hb => ?_) (fun hb => ?_)
      ·replace hR:=ct hR
       refine rS ?_;refine AWP.ret ?_;subst hR;exact es
      ·replace hR:=cf hR
       refine rS ?_;refine AWP.ret ?_;subst hR;exact es
end N169
def D_zsc : DF
 | [x0]=>some (.bool (zsc (rdP yg x0)),false,[wP yl yg x0])
 | _=>none
theorem yfw:OkD Tryz.prog 169 D_zsc:=by unfold D_zsc;exact dk N169.den
def yek (a0:Int) (i1:Nat) (s1:List Int):Except ((List Int)) (List Int):=
 (bif ((((([[46,45],[45,46,46,46],[45,46,45,46],[45,46,46],[46],[46,46,45,46],[45,45,46],[46,46,46,46],[46,46],[46,45,45,45],[45,46,45],[46,45,46,46],[45,45],[45,46],[45,45,45],[46,45,45,46],[45,45,46,45],[46,45,46],[46,46,46],[45],[46,46,45],[46,46,46,45],[46,45,45],[45,46,46,45],[45,46,45,45],[45,45,46,46]]:List (List UInt8)).getD ((IntKind.wrap .u8 (a0-65)).toNat) default).getD i1 0).toNat:Int) == 46)then .ok (s1++([5]:List Int))else .ok (s1++([15]:List Int)))
def zrb (a0:Int):(List Int):=
 (match yh (yek a0) (((([[46,45],[45,46,46,46],[45,46,45,46],[45,46,46],[46],[46,46,45,46],[45,45,46],[46,46,46,46],[46,46],[46,45,45,45],[45,46,45],[46,45,46,46],[45,45],[45,46],[45,45,45],[46,45,45,46],[45,45,46,45],[46,45,46],[46,46,46],[45],[46,46,45],[46,46,46,45],[46,45,45],[45,46,46,45],[45,46,45,45],[45,45,46,46]]:List (List UInt8)).getD ((IntKind.wrap .u8 (a0-65)).toNat) default).length)-0) 0 ([]:List Int)with|.error e=>e|.ok s1=>s1)
namespace N271
theorem DD:DOk Tryz.prog (Go.Ab.DD []):=ye _
theorem lx {p:Prop} (h:p:=by(exact lxx);first|done|fail):p:=h
theorem den (a0:Int) (hp0:65<=a0) (hp1:a0<=90):Den Tryz.prog 271 [.int .u8 a0] (ownL 2 1 yu (zrb a0)):=by
 generalize hR:zrb a0=r;unfold zrb at hR;refine di Tryz.func271 Tryz.ntmps271 Tryz.results271 ?_;intro c hL hc hk;clear hL;simp only[pars,Nat.zero_add];have hs9:=yuy (IntKind.wrap .u8 (a0-65)).toNat;have hw9:IntKind.wrap .u8 (a0-65)=a0-65:=y2h _ (by omega) (by omega);iterate 5 refine rS ?_
 refine AWP.block ?_;generalize hz1:yh (yek a0) (((([[46,45],[45,46,46,46],[45,46,45,46],[45,46,46],[46],[46,46,45,46],[45,45,46],[46,46,46,46],[46,46],[46,45,45,45],[45,46,45],[46,45,46,46],[45,45],[45,46],[45,45,45],[46,45,45,46],[45,45,46,45],[46,45,46],[46,46,46],[45],[46,46,45],[46,46,46,45],[46,45,45],[45,46,46,45],[45,46,45,45],[45,45,46,46]]:List (List UInt8)).getD ((IntKind.wrap .u8 (a0-65)).toNat) default).length)-0) 0 ([]:List Int)=z1 at hR;refine AWP.range (yek a0) (fun i1 s1=>⟨[(4,.str (([[46,45],[45,46,46,46],[45,46,45,46],[45,46,46],[46],[46,46,45,46],[45,45,46],[46,46,46,46],[46,46],[46,45,45,45],[45,46,45],[46,45,46,46],[45,45],[45,46],[45,45,45],[46,45,45,46],[45,45,46,45],[46,45,46],[46,46,46],[45],[46,46,45],[46,46,46,45],[46,45,45],[45,46,46,45],[45,46,45,45],[45,45,46,46]]:List (List UInt8)).getD ((IntKind.wrap .u8 (a0-65)).toNat) default)),(5,.ref 0 1 0 s1.length),(6,.int .i64 (i1:Int))],[.arr 2 1 s1.length (fun j=>yu (s1.getD j default))]⟩) (fun i1 s1=>s1.length<=([]:List Int).length+1 * i1/\s1.length<=i1) (((([[46,45],[45,46,46,46],[45,46,45,46],[45,46,46],[46],[46,46,45,46],[45,45,46],[46,46,46,46],[46,46],[46,45,45,45],[45,46,45],[46,45,46,46],[45,45],[45,46],[45,45,45],[46,45,45,46],[45,45,46,45],[46,45,46],[46,46,46],[45],[46,46,45],[46,46,46,45],[46,45,45],[45,46,46,45],[45,46,45,45],[45,45,46,46]]:List (List UInt8)).getD ((IntKind.wrap .u8 (a0-65)).toNat) default).length)) 0 ([]:List Int) [1] hz1 ot wt sm ?_;clear hz1;intro i1 s1 hi1 hW1 hz1;refine rS ?_;refine AWP.cond rfl (fun hb => ?_) (fun hb => ?_)
 ·have hlt1:i1<((([[46,45],[45,46,46,46],[45,46,45,46],[45,46,46],[46],[46,46,45,46],[45,45,46],[46,46,46,46],[46,46],[46,45,45,45],[45,46,45],[46,45,46,46],[45,45],[45,46],[45,45,45],[46,45,45,46],[45,45,46,45],[46,45,46],[46,46,46],[45],[46,46,45],[46,46,46,45],[46,45,45],[45,46,46,45],[45,46,45,45],[45,45,46,46]]:List (List UInt8)).getD ((IntKind.wrap .u8 (a0-65)).toNat) default).length):=ot
  rw[yp hlt1]at hz1;simp only[yek]at hz1;refine rS ?_;refine AWP.cond rfl (fun hb => ?_) (fun hb => ?_)
  ·simp only[hb,cond_true]at hz1
   iterate 2 refine rS ?_
   exact⟨_,[2],hlt1,wt,hz1,sm⟩
  ·simp only[hb,cond_false]at hz1
   iterate 2 refine rS ?_
   exact⟨_,[2],hlt1,wt,hz1,sm⟩
 ·obtain rfl:i1=((([[46,45],[45,46,46,46],[45,46,45,46],[45,46,46],[46],[46,46,45,46],[45,45,46],[46,46,46,46],[46,46],[46,45,45,45],[45,46,45],[46,45,46,46],[45,45],[45,46],[45,45,45],[46,45,45,46],[45,45,46,45],[46,45,46],[46,46,46],[45],[46,46,45],[46,46,46,45],[46,45,45],[45,46,46,45],[45,46,45,45],[45,45,46,46]]:List (List UInt8)).getD ((IntKind.wrap .u8 (a0-65)).toNat) default).length):=ot
  rw[yn (Nat.le_refl _)]at hz1;subst hz1;dsimp only at hR;refine AWP.exit ?_;refine yd ?_;refine rS ?_;refine AWP.ret ?_;subst hR;exact es
end N271
def D_zrb : DF
 | [x0]=>some (ownL 2 1 yu (zrb (rdI x0)),false,[wI .u8 x0,65<=(rdI x0),(rdI x0)<=90])
 | _=>none
theorem y3x:OkD Tryz.prog 271 D_zrb:=by unfold D_zrb;exact dk N271.den
theorem yrh (a:Int):zrb a=(y1c.getD (IntKind.wrap .u8 (a-65)).toNat default).map (fun c=>if c=46 then(5:Int)else 15):=by
 have h:=yyn (yek a) (fun j=>[if((y1c.getD (IntKind.wrap .u8 (a-65)).toNat default).getD j 0)=46 then(5:Int)else 15]) (y1c.getD (IntKind.wrap .u8 (a-65)).toNat default).length 0 [] (fun j s _ _=>by
  show(bif ((((y1c.getD (IntKind.wrap .u8 (a-65)).toNat default).getD j 0).toNat:Int) == 46)then(.ok (s++[5]):Except (List Int) (List Int))else .ok (s++[15]))=_;generalize (y1c.getD (IntKind.wrap .u8 (a-65)).toNat default).getD j 0=c;by_cases hc:c=46
  ·subst hc;rfl
  ·have:((c.toNat:Int) == 46)=false:=by
    rw[beq_eq_false_iff_ne];intro h;exact hc (UInt8.toNat_inj.1 (by show c.toNat=46;omega))
   rw[this,if_neg hc];rfl)
 have e:zrb a=(match yh (yek a) (y1c.getD (IntKind.wrap .u8 (a-65)).toNat default).length 0 ([]:List Int)with|.error e=>e|.ok s1=>s1):=rfl;rw[e,h];simp only[List.nil_append];exact y2u _ 0 (fun c=>if c=46 then(5:Int)else 15)
theorem yxs (a:Int):(zrb a).length<=4:=by
 rw[yrh,List.length_map];exact ylh _
def zw (a0:Character):Bool:=
 ((a0.Kind == 1) || (((a0.Kind == 6) || (a0.Kind == 7)) && ((a0.Group.length:Int) == 0)))
namespace N170
theorem DD:DOk Tryz.prog (Go.Ab.DD []):=ye _
theorem den (a0:Character)  : Den Tryz.prog 170 [.ep (yl a0)] (.bool (zw a0)):=by
 generalize hR:zw a0=r;unfold zw at hR;refine di Tryz.func170 Tryz.ntmps170 Tryz.results170 ?_;intro c hL hc hk;obtain⟨hL0,_⟩:=hL;have hw0:bwCharacter a0:=yw a0 hL0;clear hL0;simp only[pars,Nat.zero_add];iterate 2 refine rS ?_
 refine AWP.ret ?_;subst hR;exact es
end N170
def D_zw : DF
 | [x0]=>some (.bool (zw (rdP yg x0)),false,[wP yl yg x0])
 | _=>none
theorem yyo:OkD Tryz.prog 170 D_zw:=by unfold D_zw;exact dk N170.den
def ylp (a0:(List Int)) (i1:Nat) (s1:Int):Except (Int) (Int):=
 .ok (IntKind.wrap .i64 (s1+(a0.getD i1 default)))
def zfe (a0:(List Int)):Int:=
 (match yh (ylp a0) (a0.length-0) 0 0 with|.error e=>e|.ok s1=>s1)
namespace N227
theorem DD:DOk Tryz.prog (Go.Ab.DD []):=ye _
theorem den (a0:(List Int))  : Den Tryz.prog 227 [encL 1 yu a0] (.int .i64 (zfe a0)):=by
 generalize hR:zfe a0=r;unfold zfe at hR;refine di Tryz.func227 Tryz.ntmps227 Tryz.results227 ?_;intro c hL hc hk;obtain⟨hL0,_⟩:=hL;have hw0:a0.length<9223372036854775808:=Nat.lt_succ_of_le (yb hL0).1;clear hL0;simp only[pars,Nat.zero_add];iterate 3 refine rS ?_
 refine AWP.block ?_;generalize hz1:yh (ylp a0) (a0.length-0) 0 0=z1 at hR;refine AWP.range (ylp a0) (fun i1 s1=>⟨[(0,encL 1 yu a0),(3,.int .i64 s1),(4,.int .i64 (i1:Int))],[]⟩) (fun i1 s1=>True) (a0.length) 0 0 [] hz1 ot wt sm ?_;clear hz1;intro i1 s1 hi1 hW1 hz1;refine rS ?_;refine AWP.cond rfl (fun hb => ?_) (fun hb => ?_)
 ·have hlt1:i1<a0.length:=ot
  rw[yp hlt1]at hz1;simp only[ylp]at hz1;iterate 2 refine rS ?_
  exact⟨_,[],hlt1,wt,hz1,sm⟩
 ·obtain rfl:i1=a0.length:=ot
  rw[yn (Nat.le_refl _)]at hz1;subst hz1;dsimp only at hR;refine AWP.exit ?_;refine yd ?_;refine rS ?_;refine AWP.ret ?_;subst hR;exact es
end N227
def D_zfe : DF
 | [x0]=>some (.int .i64 (zfe (rdL yhb x0)),false,[wL 1 yu yhb x0])
 | _=>none
theorem y5w:OkD Tryz.prog 227 D_zfe:=by unfold D_zfe;exact dk N227.den
def ztc (a0:Int):Int:=
 (bif (a0 == 2)then 10 else(bif (a0 == 4)then 15 else(bif (a0 == 5)then 20 else(bif (a0 == 7)then 3 else 5))))
namespace N233
theorem DD:DOk Tryz.prog (Go.Ab.DD []):=ye _
theorem den (a0:Int)  : Den Tryz.prog 233 [.int .i64 a0] (.int .i64 (ztc a0)):=by
 generalize hR:ztc a0=r;unfold ztc at hR;refine di Tryz.func233 Tryz.ntmps233 Tryz.results233 ?_;intro c hL hc hk;clear hL;simp only[pars,Nat.zero_add];iterate 3 refine rS ?_
 refine AWP.cond rfl (fun hb => ?_) (fun hb => ?_)
 ·replace hR:=ct hR
  refine rS ?_;refine AWP.ret ?_;subst hR;exact es
 ·replace hR:=cf hR
  refine rS ?_;refine AWP.cond rfl (fun hb => ?_) (fun hb => ?_)
  ·replace hR:=ct hR
   refine rS ?_;refine AWP.ret ?_;subst hR;exact es
  ·replace hR:=cf hR
   refine rS ?_;refine AWP.cond rfl (fun hb => ?_) (fun hb => ?_)
   ·replace hR:=ct hR
    refine rS ?_;refine AWP.ret ?_;subst hR;exact es
   ·replace hR:=cf hR
    refine rS ?_;refine AWP.cond rfl (fun hb => ?_) (fun hb => ?_)
    ·replace hR:=ct hR
     refine rS ?_;refine AWP.ret ?_;subst hR;exact es
    ·replace hR:=cf hR
     refine rS ?_;refine AWP.ret ?_;subst hR;exact es
end N233
def D_ztc : DF
 | [x0]=>some (.int .i64 (ztc (rdI x0)),false,[wI .i64 x0])
 | _=>none
theorem yxq:OkD Tryz.prog 233 D_ztc:=by unfold D_ztc;exact dk N233.den
def zge (a0:Int):Int:=
 (bif (a0 == 2)then 10 else(bif (a0 == 5)then 20 else(bif (a0 == 7)then 2 else 5)))
namespace N272
theorem DD:DOk Tryz.prog (Go.Ab.DD []):=ye _
theorem den (a0:Int)  : Den Tryz.prog 272 [.int .i64 a0] (.int .i64 (zge a0)):=by
 generalize hR:zge a0=r;unfold zge at hR;refine di Tryz.func272 Tryz.ntmps272 Tryz.results272 ?_;intro c hL hc hk;clear hL;simp only[pars,Nat.zero_add];iterate 3 refine rS ?_
 refine AWP.cond rfl (fun hb => ?_) (fun hb => ?_)
 ·replace hR:=ct hR
  refine rS ?_;refine AWP.ret ?_;subst hR;exact es
 ·replace hR:=cf hR
  refine rS ?_;refine AWP.cond rfl (fun hb => ?_) (fun hb => ?_)
  ·replace hR:=ct hR
   refine rS ?_;refine AWP.ret ?_;subst hR;exact es
  ·replace hR:=cf hR
   refine rS ?_;refine AWP.cond rfl (fun hb => ?_) (fun hb => ?_)
   ·replace hR:=ct hR
    refine rS ?_;refine AWP.ret ?_;subst hR;exact es
   ·replace hR:=cf hR
    refine rS ?_;refine AWP.ret ?_;subst hR;exact es
end N272
def D_zge : DF
 | [x0]=>some (.int .i64 (zge (rdI x0)),false,[wI .i64 x0])
 | _=>none
theorem ytx:OkD Tryz.prog 272 D_zge:=by unfold D_zge;exact dk N272.den
def y2r (a0:Character) (i1:Nat) (s1:List Int):Except ((List Int)) (List Int):=
 (bif decide (0<(i1:Int))then .ok ((s1++([5]:List Int))++([((zrb ((a0.Letter.getD 0 0).toNat:Int)).getD i1 default)]:List Int))else .ok (s1++([((zrb ((a0.Letter.getD 0 0).toNat:Int)).getD i1 default)]:List Int)))
def yxr (a0:Character) (i2:Nat) (s2:List Int) (i3:Nat) (s3:List Int):Except ((List Int)) (List Int):=
 (bif decide (0<(i3:Int))then .ok ((s3++([(ztc a0.Kind)]:List Int))++([(zge a0.Kind)]:List Int))else(bif decide (0<(i2:Int))then .ok ((s3++([IntKind.wrap .i64 ((ztc a0.Kind)+20)]:List Int))++([(zge a0.Kind)]:List Int))else .ok (s3++([(zge a0.Kind)]:List Int))))
def y5r (a0:Character) (i2:Nat) (s2:List Int):Except ((List Int)) (List Int):=
 (match yh (yxr a0 i2 s2) (((([1]:List Int).getD i2 default)).toNat-0) 0 s2 with|.error e=>.error e|.ok s3=>.ok s3)
def ygs (a0:Character) (i4:Nat) (s4:List Int) (i5:Nat) (s5:List Int):Except ((List Int)) (List Int):=
 (bif decide (0<(i5:Int))then .ok ((s5++([(ztc a0.Kind)]:List Int))++([(zge a0.Kind)]:List Int))else(bif decide (0<(i4:Int))then .ok ((s5++([IntKind.wrap .i64 ((ztc a0.Kind)+20)]:List Int))++([(zge a0.Kind)]:List Int))else .ok (s5++([(zge a0.Kind)]:List Int))))
def yqr (a0:Character) (i4:Nat) (s4:List Int):Except ((List Int)) (List Int):=
 (match yh (ygs a0 i4 s4) (((a0.Group.getD i4 default)).toNat-0) 0 s4 with|.error e=>.error e|.ok s5=>.ok s5)
def zu (a0:Character):(List Int):=
 (bif (a0.Kind == 8)then(match yh (y2r a0) (((zrb ((a0.Letter.getD 0 0).toNat:Int)).length)-0) 0 ([]:List Int)with|.error e=>e|.ok s1=>s1)else(bif ((a0.Group.length:Int) == 0)then(match yh (y5r a0) (1-0) 0 ([]:List Int)with|.error e=>e|.ok s2=>(bif (a0.Letter == [76])then s2++([(ztc a0.Kind),20]:List Int)else s2))else(match yh (yqr a0) (a0.Group.length-0) 0 ([]:List Int)with|.error e=>e|.ok s4=>(bif (a0.Letter == [76])then s4++([(ztc a0.Kind),20]:List Int)else s4))))
namespace N228
theorem DD:DOk Tryz.prog (Go.Ab.DD [(233,dP D_ztc),(271,dP D_zrb),(272,dP D_zge)]):=ya yxq.e <| ya y3x.e <| ya ytx.e <| ye _
theorem dn:type_of% (And.intro @D_ztc.eq_1 <| And.intro @D_zrb.eq_1 <| @D_zge.eq_1):=by and_intros<;>intros<;>rfl
theorem o2 {p:Prop} (h:p:=by(first|(and_intros<;>first|decide|omega|(simp;(first|done|fail))|(rw[IntKind.wrap_i64];have:=hg9 i4;omega)|(rw[IntKind.wrap_i64];have:=hg1 i2;omega)|(rw[IntKind.wrap_i64];omega)|(intro i hi;exact ynk _ _ i hi)|(intro i hi;exact y1m _ _ _ i hi)));first|done|fail):p:=h
theorem o3 {p:Prop} (h:p:=by(first|(refine⟨⟨Nat.le_refl _,fun i hi=>yzl _ _ _ i hi⟩,.inl fun i hi=>by rw[yfh _ _ _ i hi];simp[NoBorL,NoBor],by simp,fun i hi=>by rw[yfh _ _ _ i hi];exact y8 _⟩));first|done|fail):p:=h
theorem lx {p:Prop} (h:p:=by(exact lxx);first|done|fail):p:=h
set_option maxHeartbeats 1000000 in
set_option maxRecDepth 20000 in
theorem den (a0:Character) (hb0:bdCharacter a0) (hp0:a0.Group.length<=4) (hp1:∀ v∈a0.Group,v<=9) (hp2:a0.Kind=8->a0.Letter.length=1/\65<=(a0.Letter.getD 0 0).toNat/\(a0.Letter.getD 0 0).toNat<=90):Den Tryz.prog 228 [.ep (yl a0)] (ownL 2 1 yu (zu a0)):=by
 generalize hR:zu a0=r;unfold zu at hR;refine di Tryz.func228 Tryz.ntmps228 Tryz.results228 ?_;intro c hL hc hk;obtain⟨hL0,_⟩:=hL;have hw0:bwCharacter a0:=yw a0 hL0;clear hL0;simp only[pars,Nat.zero_add];have hg9:∀ i:Nat,a0.Group.getD i default<=9:=fun i=>ycl hp1 i
 have hs9:=yxs ((a0.Letter.getD 0 0).toNat:Int);have hg1:∀ i:Nat,([1]:List Int).getD i default<=9:=fun i=>ycl (by simp) i
 iterate 3 refine rS ?_
 refine AWP.cond rfl (fun hb => ?_) (fun hb => ?_)
 ·replace hR:=ct hR
  iterate 2 refine rS ?_
  refine AWP.block ?_;generalize hz1:yh (y2r a0) (((zrb ((a0.Letter.getD 0 0).toNat:Int)).length)-0) 0 ([]:List Int)=z1 at hR;refine AWP.range (y2r a0) (fun i1 s1=>⟨[(3,.ref 0 1 0 s1.length),(4,.ref 1 1 0 ((zrb ((a0.Letter.getD 0 0).toNat:Int)).length)),(5,.int .i64 (i1:Int))],[.arr 2 1 s1.length (fun j=>yu (s1.getD j default)),.arr 2 1 (zrb ((a0.Letter.getD 0 0).toNat:Int)).length (fun j=>yu ((zrb ((a0.Letter.getD 0 0).toNat:Int)).getD j default))]⟩) (fun i1 s1=>s1.length<=([]:List Int).length+2 * i1/\s1.length<=2 * i1) (((zrb ((a0.Letter.getD 0 0).toNat:Int)).length)) 0 ([]:List Int) [0,1] hz1 ot wt sm ?_;clear hz1;intro i1 s1 hi1 hW1 hz1;refine rS ?_;refine AWP.cond rfl (fun hb => ?_) (fun hb => ?_)
  ·have hlt1:i1<((zrb ((a0.Letter.getD 0 0).toNat:Int)).length):=ot
   rw[yp hlt1]at hz1;simp only[y2r]at hz1;refine rS ?_;refine AWP.cond rfl (fun hb => ?_) (fun hb => ?_)
   ·simp only[hb,cond_true]at hz1
    iterate 3 refine rS ?_
    exact⟨_,[5,1],hlt1,wt,hz1,sm⟩
   ·simp only[hb,cond_false]at hz1
    iterate 2 refine rS ?_
    exact⟨_,[3,1],hlt1,wt,hz1,sm⟩
  ·obtain rfl:i1=((zrb ((a0.Letter.getD 0 0).toNat:Int)).length):=ot
   rw[yn (Nat.le_refl _)]at hz1;subst hz1;dsimp only at hR;refine AWP.exit ?_;refine yd ?_;refine rS ?_;refine AWP.ret ?_;subst hR;exact es
 ·replace hR:=cf hR
  iterate 2 refine rS ?_
  refine AWP.cond rfl (fun hb => ?_) (fun hb => ?_)
  ·replace hR:=ct hR
   iterate 2 refine rS ?_
   refine AWP.block ?_;generalize hz2:yh (y5r a0) (1-0) 0 ([]:List Int)=z2 at hR;refine AWP.range (y5r a0) (fun i2 s2=>⟨[(0,.ep (yl a0)),(3,.ref 0 1 0 s2.length),(6,.ref 1 1 0 1),(7,.int .i64 (i2:Int))],[.arr 2 1 s2.length (fun j=>yu (s2.getD j default)),.arr 2 1 ([1]:List Int).length (fun j=>yu (([1]:List Int).getD j default))]⟩) (fun i2 s2=>s2.length<=18 * i2) (1) 0 ([]:List Int) [0,1] hz2 ot wt sm ?_;clear hz2;intro i2 s2 hi2 hW2 hz2;refine rS ?_;refine AWP.cond rfl (fun hb => ?_) (fun hb => ?_)
   ·have hlt2:i2<1:=ot
    rw[yp hlt2]at hz2;simp only[y5r]at hz2;refine rS ?_;refine AWP.block ?_;generalize hz3:yh (yxr a0 i2 s2) (((([1]:List Int).getD i2 default)).toNat-0) 0 s2=z3 at hz2;refine AWP.range (yxr a0 i2 s2) (fun i3 s3=>⟨[(0,.ep (yl a0)),(3,.ref 0 1 0 s3.length),(6,.ref 1 1 0 1),(7,.int .i64 (i2:Int)),(8,.int .i64 (i3:Int))],[.arr 2 1 s3.length (fun j=>yu (s3.getD j default)),.arr 2 1 ([1]:List Int).length (fun j=>yu (([1]:List Int).getD j default))]⟩) (fun i3 s3=>s3.length<=s2.length+2 * i3/\s3.length<=18 * i2+2 * i3) (((([1]:List Int).getD i2 default)).toNat) 0 s2 [0,1] hz3 ot wt sm ?_;clear hz3;intro i3 s3 hi3 hW3 hz3;refine rS ?_;refine AWP.cond rfl (fun hb => ?_) (fun hb => ?_)
    ·have hlt3:i3<((([1]:List Int).getD i2 default)).toNat:=ot
     rw[yp hlt3]at hz3;simp only[yxr]at hz3;refine rS ?_;refine AWP.cond rfl (fun hb => ?_) (fun hb => ?_)
     ·simp only[hb,cond_true]at hz3
      iterate 3 refine rS ?_
      exact⟨_,[5,1],hlt3,wt,hz3,sm⟩
     ·simp only[hb,cond_false]at hz3
      refine rS ?_;refine AWP.cond rfl (fun hb => ?_) (fun hb => ?_)
      ·simp only[hb,cond_true]at hz3
       iterate 3 refine rS ?_
       exact⟨_,[5,1],hlt3,wt,hz3,sm⟩
      ·simp only[hb,cond_false]at hz3
       iterate 2 refine rS ?_
       exact⟨_,[3,1],hlt3,wt,hz3,sm⟩
    ·obtain rfl:i3=((([1]:List Int).getD i2 default)).toNat:=ot
     rw[yn (Nat.le_refl _)]at hz3;subst hz3;dsimp only at hz2;refine AWP.exit ?_;refine yd ?_;refine rS ?_;exact⟨_,[0,1],hlt2,by(have h9:=hg1 i2;omega),hz2,sm⟩
   ·obtain rfl:i2=1:=ot
    rw[yn (Nat.le_refl _)]at hz2;subst hz2;dsimp only at hR;refine AWP.exit ?_;refine yd ?_;refine rS ?_;refine AWP.cond rfl (fun hb => ?_) (fun hb => ?_)
    ·replace hR:=ct hR
     iterate 2 refine rS ?_
     refine AWP.ret ?_;subst hR;exact es
    ·replace hR:=cf hR
     refine rS ?_;refine AWP.ret ?_;subst hR;exact es
  ·replace hR:=cf hR
   refine rS ?_;refine AWP.block ?_;refine AWP.lensS 6 rfl (fun hLn4 => ?_);generalize hz4:yh (yqr a0) (a0.Group.length-0) 0 ([]:List Int)=z4 at hR;refine AWP.range (yqr a0) (fun i4 s4=>⟨[(0,.ep (yl a0)),(3,.ref 0 1 0 s4.length),(6,encL 1 yu a0.Group),(7,.int .i64 (i4:Int))],[.arr 2 1 s4.length (fun j=>yu (s4.getD j default))]⟩) (fun i4 s4=>s4.length<=18 * i4) (a0.Group.length) 0 ([]:List Int) [0] hz4 ot wt sm ?_;clear hz4;intro i4 s4 hi4 hW4 hz4;refine rS ?_;refine AWP.cond rfl (fun hb => ?_) (fun hb => ?_)
   ·have hlt4:i4<a0.Group.length:=ot
    rw[yp hlt4]at hz4;simp only[yqr]at hz4;refine rS ?_;refine AWP.block ?_;generalize hz5:yh (ygs a0 i4 s4) (((a0.Group.getD i4 default)).toNat-0) 0 s4=z5 at hz4;refine AWP.range (ygs a0 i4 s4) (fun i5 s5=>⟨[(0,.ep (yl a0)),(3,.ref 0 1 0 s5.length),(6,encL 1 yu a0.Group),(7,.int .i64 (i4:Int)),(8,.int .i64 (i5:Int))],[.arr 2 1 s5.length (fun j=>yu (s5.getD j default))]⟩) (fun i5 s5=>s5.length<=s4.length+2 * i5/\s5.length<=18 * i4+2 * i5) (((a0.Group.getD i4 default)).toNat) 0 s4 [0] hz5 ot wt sm ?_;clear hz5;intro i5 s5 hi5 hW5 hz5;refine rS ?_;refine AWP.cond rfl (fun hb => ?_) (fun hb => ?_)
    ·have hlt5:i5<((a0.Group.getD i4 default)).toNat:=ot
     rw[yp hlt5]at hz5;simp only[ygs]at hz5;refine rS ?_;refine AWP.cond rfl (fun hb => ?_) (fun hb => ?_)
     ·simp only[hb,cond_true]at hz5
      iterate 3 refine rS ?_
      exact⟨_,[4],hlt5,wt,hz5,sm⟩
     ·simp only[hb,cond_false]at hz5
      refine rS ?_;refine AWP.cond rfl (fun hb => ?_) (fun hb => ?_)
      ·simp only[hb,cond_true]at hz5
       iterate 3 refine rS ?_
       exact⟨_,[4],hlt5,wt,hz5,sm⟩
      ·simp only[hb,cond_false]at hz5
       iterate 2 refine rS ?_
       exact⟨_,[2],hlt5,wt,hz5,sm⟩
    ·obtain rfl:i5=((a0.Group.getD i4 default)).toNat:=ot
     rw[yn (Nat.le_refl _)]at hz5;subst hz5;dsimp only at hz4;refine AWP.exit ?_;refine yd ?_;refine rS ?_;exact⟨_,[0],hlt4,by(have h9:=hg9 i4;omega),hz4,sm⟩
   ·obtain rfl:i4=a0.Group.length:=ot
    rw[yn (Nat.le_refl _)]at hz4;subst hz4;dsimp only at hR;refine AWP.exit ?_;refine yd ?_;refine rS ?_;refine AWP.cond rfl (fun hb => ?_) (fun hb => ?_)
    ·replace hR:=ct hR
     iterate 2 refine rS ?_
     refine AWP.ret ?_;subst hR;exact es
    ·replace hR:=cf hR
     refine rS ?_;refine AWP.ret ?_;subst hR;exact es
end N228
def D_zu : DF
 | [x0]=>some (ownL 2 1 yu (zu (rdP yg x0)),false,[wP yl yg x0,bdCharacter (rdP yg x0),(rdP yg x0).Group.length<=4,∀ v∈(rdP yg x0).Group,v<=9,(rdP yg x0).Kind=8->(rdP yg x0).Letter.length=1/\65<=((rdP yg x0).Letter.getD 0 0).toNat/\((rdP yg x0).Letter.getD 0 0).toNat<=90])
 | _=>none
theorem y70:OkD Tryz.prog 228 D_zu:=by unfold D_zu;exact dk N228.den
def ztf (a0:Character):Int:=
 (bif (a0.Kind == 6)then 20 else(bif (a0.Kind == 7)then 10 else(bif (a0.Kind == 8)then 30 else(bif decide (1<(a0.Group.length:Int))then IntKind.wrap .i64 ((IntKind.wrap .i64 ((ztc a0.Kind)+5))+20)else IntKind.wrap .i64 ((ztc a0.Kind)+5)))))
namespace N229
theorem DD:DOk Tryz.prog (Go.Ab.DD [(233,dP D_ztc)]):=ya yxq.e <| ye _
theorem dn:type_of% (@D_ztc.eq_1):=by and_intros<;>intros<;>rfl
theorem den (a0:Character)  : Den Tryz.prog 229 [.ep (yl a0)] (.int .i64 (ztf a0)):=by
 generalize hR:ztf a0=r;unfold ztf at hR;refine di Tryz.func229 Tryz.ntmps229 Tryz.results229 ?_;intro c hL hc hk;obtain⟨hL0,_⟩:=hL;have hw0:bwCharacter a0:=yw a0 hL0;clear hL0;simp only[pars,Nat.zero_add];iterate 3 refine rS ?_
 refine AWP.cond rfl (fun hb => ?_) (fun hb => ?_)
 ·replace hR:=ct hR
  refine rS ?_;refine AWP.ret ?_;subst hR;exact es
 ·replace hR:=cf hR
  refine rS ?_;refine AWP.cond rfl (fun hb => ?_) (fun hb => ?_)
  ·replace hR:=ct hR
   refine rS ?_;refine AWP.ret ?_;subst hR;exact es
  ·replace hR:=cf hR
   refine rS ?_;refine AWP.cond rfl (fun hb => ?_) (fun hb => ?_)
   ·replace hR:=ct hR
    refine rS ?_;refine AWP.ret ?_;subst hR;exact es
   ·replace hR:=cf hR
    iterate 2 refine rS ?_
    refine AWP.cond rfl (fun hb => ?_) (fun hb => ?_)
    ·replace hR:=ct hR
     iterate 2 refine rS ?_
     refine AWP.ret ?_;subst hR;exact es
    ·replace hR:=cf hR
     refine rS ?_;refine AWP.ret ?_;subst hR;exact es
end N229
def D_ztf : DF
 | [x0]=>some (.int .i64 (ztf (rdP yg x0)),false,[wP yl yg x0])
 | _=>none
theorem yox:OkD Tryz.prog 229 D_ztf:=by unfold D_ztf;exact dk N229.den
def zh (a0:Character):Int:=
 (bif (zw a0)then 0 else(bif (a0.Kind == 3)then 20 else IntKind.wrap .i64 ((zfe (zu a0))+(ztf a0))))
namespace N171
theorem DD:DOk Tryz.prog (Go.Ab.DD [(170,dP D_zw),(227,dP D_zfe),(228,dP D_zu),(229,dP D_ztf)]):=ya yyo.e <| ya y5w.e <| ya y70.e <| ya yox.e <| ye _
theorem dn:type_of% (And.intro @D_zw.eq_1 <| And.intro @D_zfe.eq_1 <| And.intro @D_zu.eq_1 <| @D_ztf.eq_1):=by and_intros<;>intros<;>rfl
theorem den (a0:Character) (hb0:bdCharacter a0) (hp0:a0.Group.length<=4) (hp1:∀ v∈a0.Group,v<=9) (hp2:a0.Kind=8->a0.Letter.length=1/\65<=(a0.Letter.getD 0 0).toNat/\(a0.Letter.getD 0 0).toNat<=90):Den Tryz.prog 171 [.ep (yl a0)] (.int .i64 (zh a0)):=by
 generalize hR:zh a0=r;unfold zh at hR;refine di Tryz.func171 Tryz.ntmps171 Tryz.results171 ?_;intro c hL hc hk;obtain⟨hL0,_⟩:=hL;have hw0:bwCharacter a0:=yw a0 hL0;clear hL0;simp only[pars,Nat.zero_add];iterate 2 refine rS ?_
 refine AWP.cond rfl (fun hb => ?_) (fun hb => ?_)
 ·replace hR:=ct hR
  refine rS ?_;refine AWP.ret ?_;subst hR;exact es
 ·replace hR:=cf hR
  refine rS ?_;refine AWP.cond rfl (fun hb => ?_) (fun hb => ?_)
  ·replace hR:=ct hR
   refine rS ?_;refine AWP.ret ?_;subst hR;exact es
  ·replace hR:=cf hR
   refine rS ?_;refine AWP.ret ?_;subst hR;exact es
end N171
def D_zh : DF
 | [x0]=>some (.int .i64 (zh (rdP yg x0)),false,[wP yl yg x0,bdCharacter (rdP yg x0),(rdP yg x0).Group.length<=4,∀ v∈(rdP yg x0).Group,v<=9,(rdP yg x0).Kind=8->(rdP yg x0).Letter.length=1/\65<=((rdP yg x0).Letter.getD 0 0).toNat/\((rdP yg x0).Letter.getD 0 0).toNat<=90])
 | _=>none
theorem you:OkD Tryz.prog 171 D_zh:=by unfold D_zh;exact dk N171.den
def zre (a0:Sector):Bool:=
 ((zf a0.From 0 359) && (zf a0.To 0 359))
namespace N230
theorem DD:DOk Tryz.prog (Go.Ab.DD [(81,dP D_zf)]):=ya yyd.e <| ye _
theorem dn:type_of% (@D_zf.eq_1):=by and_intros<;>intros<;>rfl
theorem ol:type_of% (@zf.eq_1):=@zf.eq_1
theorem den (a0:Sector)  : Den Tryz.prog 230 [.ep (yq a0)] (.bool (zre a0)):=by
 generalize hR:zre a0=r;unfold zre at hR;refine di Tryz.func230 Tryz.ntmps230 Tryz.results230 ?_;intro c hL hc hk;obtain⟨hL0,_⟩:=hL;have hw0:bwSector a0:=y7 a0 hL0;clear hL0;simp only[pars,Nat.zero_add];iterate 2 refine rS ?_
 refine AWP.ret ?_;subst hR;exact es
end N230
def D_zre : DF
 | [x0]=>some (.bool (zre (rdP yx x0)),false,[wP yq yx x0])
 | _=>none
theorem yqy:OkD Tryz.prog 230 D_zre:=by unfold D_zre;exact dk N230.den
def zmd (a0:(List UInt8)):Bool:=
 ((((a0 == [87]) || (a0 == [82])) || (a0 == [71])) || (a0 == [89]))
namespace N231
theorem DD:DOk Tryz.prog (Go.Ab.DD []):=ye _
theorem den (a0:(List UInt8))  : Den Tryz.prog 231 [.str a0] (.bool (zmd a0)):=by
 generalize hR:zmd a0=r;unfold zmd at hR;refine di Tryz.func231 Tryz.ntmps231 Tryz.results231 ?_;intro c hL hc hk;obtain⟨hL0,_⟩:=hL;have hw0:a0.length<9223372036854775808:=Nat.lt_succ_of_le hL0;clear hL0;simp only[pars,Nat.zero_add];iterate 2 refine rS ?_
 refine AWP.ret ?_;subst hR;exact es
end N231
def D_zmd : DF
 | [x0]=>some (.bool (zmd (rdS x0)),false,[wS x0])
 | _=>none
theorem yrw:OkD Tryz.prog 231 D_zmd:=by unfold D_zmd;exact dk N231.den
def zwb (a0:Sector):Bool:=
 ((zre a0) && (zmd a0.Color))
namespace N172
theorem DD:DOk Tryz.prog (Go.Ab.DD [(230,dP D_zre),(231,dP D_zmd)]):=ya yqy.e <| ya yrw.e <| ye _
theorem dn:type_of% (And.intro @D_zre.eq_1 <| @D_zmd.eq_1):=by and_intros<;>intros<;>rfl
theorem den (a0:Sector)  : Den Tryz.prog 172 [.ep (yq a0)] (.bool (zwb a0)):=by
 generalize hR:zwb a0=r;unfold zwb at hR;refine di Tryz.func172 Tryz.ntmps172 Tryz.results172 ?_;intro c hL hc hk;obtain⟨hL0,_⟩:=hL;have hw0:bwSector a0:=y7 a0 hL0;clear hL0;simp only[pars,Nat.zero_add];iterate 2 refine rS ?_
 refine AWP.ret ?_;subst hR;exact es
end N172
def D_zwb : DF
 | [x0]=>some (.bool (zwb (rdP yx x0)),false,[wP yq yx x0])
 | _=>none
theorem ywx:OkD Tryz.prog 172 D_zwb:=by unfold D_zwb;exact dk N172.den
def zif (a0:Sector):Int:=
 (bif (((IntKind.wrap .i64 ((IntKind.wrap .i64 (a0.To-a0.From))+360)).tmod 360) == 0)then 360 else(IntKind.wrap .i64 ((IntKind.wrap .i64 (a0.To-a0.From))+360)).tmod 360)
namespace N173
theorem DD:DOk Tryz.prog (Go.Ab.DD []):=ye _
theorem den (a0:Sector)  : Den Tryz.prog 173 [.ep (yq a0)] (.int .i64 (zif a0)):=by
 generalize hR:zif a0=r;unfold zif at hR;refine di Tryz.func173 Tryz.ntmps173 Tryz.results173 ?_;intro c hL hc hk;obtain⟨hL0,_⟩:=hL;have hw0:bwSector a0:=y7 a0 hL0;clear hL0;simp only[pars,Nat.zero_add];refine rS ?_;refine rD 11 ?_;refine rS ?_;refine AWP.cond rfl (fun hb => ?_) (fun hb => ?_)
 ·replace hR:=ct hR
  refine rS ?_;refine AWP.ret ?_;subst hR;exact es
 ·replace hR:=cf hR
  refine rS ?_;refine AWP.ret ?_;subst hR;exact es
end N173
def D_zif : DF
 | [x0]=>some (.int .i64 (zif (rdP yx x0)),false,[wP yq yx x0])
 | _=>none
theorem ysw:OkD Tryz.prog 173 D_zif:=by unfold D_zif;exact dk N173.den
def yzo (a0:(List Sector)) (i1:Nat) (s1:Unit):Except (Bool) (Unit):=
 (bif ((!(zwb (a0.getD i1 default))) || (decide (0<(i1:Int)) && decide (((a0.getD i1 default).From)<=((a0.getD ((IntKind.wrap .i64 ((i1:Int)-1)).toNat) default).From))))then .error false else .ok ())
def yel (a0:(List Sector)) (s1:Unit) (s2:Int):Except (Sum (Bool) (Int)) (Int):=
 (bif (decide (s2<(a0.length:Int)) && decide (1<(a0.length:Int)))then(bif decide (((IntKind.wrap .i64 ((IntKind.wrap .i64 (((a0.getD (((IntKind.wrap .i64 (s2+1)).tmod (a0.length:Int)).toNat) default).From)-((a0.getD ((s2).toNat) default).From)))+360)).tmod 360)<(zif (a0.getD ((s2).toNat) default)))then .error (.inl false)else .ok (IntKind.wrap .i64 (s2+1)))else .error (.inr s2))
def zx (a0:(List Sector)):Bool:=
 (bif decide (12<(a0.length:Int))then false else(match yh (yzo a0) (a0.length-0) 0 ()with|.error e=>e|.ok s1=>(match yqb (yel a0 s1) ((a0.length-((0:Int)).toNat)+1) 0 with|.error (.inl e)=>e|.error (.inr s2)=>true|.ok _=>default)))
namespace N121
theorem DD:DOk Tryz.prog (Go.Ab.DD [(172,dP D_zwb),(173,dP D_zif)]):=ya ywx.e <| ya ysw.e <| ye _
theorem dn:type_of% (And.intro @D_zwb.eq_1 <| @D_zif.eq_1):=by and_intros<;>intros<;>rfl
theorem o0 {p:Prop} (h:p:=by(first|(have hb2:=hb;simp only[Bool.and_eq_true,decide_eq_true_eq]at hb2;have h9:=yv1 hW2.1 hb2.1 (by omega);and_intros<;>first|omega|exact h9.1|exact h9.2));first|done|fail):p:=h
theorem den (a0:(List Sector))  : Den Tryz.prog 121 [encL 3 yq a0] (.bool (zx a0)):=by
 generalize hR:zx a0=r;unfold zx at hR;refine di Tryz.func121 Tryz.ntmps121 Tryz.results121 ?_;intro c hL hc hk;obtain⟨hL0,_⟩:=hL;have hw0:a0.length<9223372036854775808:=Nat.lt_succ_of_le (yb hL0).1;have hw1:∀ v∈a0,bwSector v:=fun v hv=>y7 v ((yb hL0).2 v hv)
 clear hL0;simp only[pars,Nat.zero_add];iterate 3 refine rS ?_
 refine AWP.cond rfl (fun hb => ?_) (fun hb => ?_)
 ·replace hR:=ct hR
  refine rS ?_;refine AWP.ret ?_;subst hR;exact es
 ·replace hR:=cf hR
  refine rS ?_;refine AWP.block ?_;generalize hz1:yh (yzo a0) (a0.length-0) 0 ()=z1 at hR;refine AWP.range (yzo a0) (fun i1 s1=>⟨[(0,encL 3 yq a0),(3,.int .i64 (a0.length:Int)),(4,.int .i64 (i1:Int))],[]⟩) (fun i1 s1=>True) (a0.length) 0 () [] hz1 ot wt sm ?_;clear hz1;intro i1 s1 hi1 hW1 hz1;refine rS ?_;refine AWP.cond rfl (fun hb => ?_) (fun hb => ?_)
  ·have hlt1:i1<a0.length:=ot
   rw[yp hlt1]at hz1;simp only[yzo]at hz1;refine rD 23 ?_;refine AWP.cond rfl (fun hb => ?_) (fun hb => ?_)
   ·simp only[hb,cond_true]at hz1
    refine rS ?_;refine AWP.ret ?_;subst hz1;dsimp only at hR;subst hR;exact es
   ·simp only[hb,cond_false]at hz1
    refine rS ?_;exact⟨_,[],hlt1,wt,hz1,sm⟩
  ·obtain rfl:i1=a0.length:=ot
   rw[yn (Nat.le_refl _)]at hz1;subst hz1;dsimp only at hR;refine AWP.exit ?_;refine yd ?_;refine rS ?_;refine AWP.block ?_;generalize hz2:yqb (yel a0 s1) ((a0.length-((0:Int)).toNat)+1) 0=z2 at hR;refine AWP.whileW (yel a0 s1) (fun s2=>⟨[(0,encL 3 yq a0),(3,.int .i64 (a0.length:Int)),(5,.int .i64 s2)],[]⟩) (fun s2=>0<=s2/\s2<=a0.length) (fun s2=>a0.length-(s2).toNat) ((a0.length-((0:Int)).toNat)+1) 0 [] hz2 m0 wt sm ?_;clear hz2;intro s2 k2 hW2 hm2 hz2;simp only[yel]at hz2;refine rS ?_;refine AWP.cond rfl (fun hb => ?_) (fun hb => ?_)
   ·simp only[hb,cond_true]at hz2
    refine rD 21 ?_;refine AWP.cond rfl (fun hb => ?_) (fun hb => ?_)
    ·simp only[hb,cond_true]at hz2
     refine rS ?_;refine AWP.ret ?_;subst hz2;dsimp only at hR;subst hR;exact es
    ·simp only[hb,cond_false]at hz2
     refine rS ?_;exact⟨_,[],ms,wt,hz2,sm⟩
   ·simp only[hb,cond_false]at hz2
    refine AWP.exit ?_;refine yd ?_;subst hz2;dsimp only at hR;refine rS ?_;refine AWP.ret ?_;subst hR;exact es
end N121
def D_zx : DF
 | [x0]=>some (.bool (zx (rdL yx x0)),false,[wL 3 yq yx x0])
 | _=>none
theorem yu0:OkD Tryz.prog 121 D_zx:=by unfold D_zx;exact dk N121.den
def y0s (a0:(List Sector)) (i1:Nat) (s1:List UInt8) (i2:Nat) (s2:List UInt8):Except (Sum ((List UInt8)) (List UInt8)) (List UInt8):=
 (bif (((a0.getD i2 default).Color) == ([[87],[82],[71],[89]].getD i1 default))then .error (.inr (s2++([[87],[82],[71],[89]].getD i1 default)))else .ok s2)
def ytr (a0:(List Sector)) (i1:Nat) (s1:List UInt8):Except ((List UInt8)) (List UInt8):=
 (match yh (y0s a0 i1 s1) (a0.length-0) 0 s1 with|.error (.inl e)=>.error e|.error (.inr s2)=>.ok s2|.ok s2=>.ok s2)
def zy (a0:(List Sector)):(List UInt8):=
 (match yh (ytr a0) (4-0) 0 []with|.error e=>e|.ok s1=>s1)
namespace N122
theorem DD:DOk Tryz.prog (Go.Ab.DD []):=ye _
theorem o0 {p:Prop} (h:p:=by(first|(have h4:=hq4 i1;have h1:=hW1;have h2:=hW2;and_intros<;>omega));first|done|fail):p:=h
theorem lx {p:Prop} (h:p:=by(exact lxx);first|done|fail):p:=h
theorem den (a0:(List Sector)) (hb0:a0.length<1099511627776) (hb1:∀ v∈a0,bdSector v):Den Tryz.prog 122 [encL 3 yq a0] (.str (zy a0)):=by
 generalize hR:zy a0=r;unfold zy at hR;refine di Tryz.func122 Tryz.ntmps122 Tryz.results122 ?_;intro c hL hc hk;obtain⟨hL0,_⟩:=hL;have hw0:a0.length<9223372036854775808:=Nat.lt_succ_of_le (yb hL0).1;have hw1:∀ v∈a0,bwSector v:=fun v hv=>y7 v ((yb hL0).2 v hv)
 clear hL0;simp only[pars,Nat.zero_add];have hq4:∀ i:Nat,(([[87],[82],[71],[89]]:List (List UInt8)).getD i default).length<=1:=fun i=>by rcases i with _|_|_|_|i<;>first|exact Nat.le_refl _|exact Nat.zero_le _
 iterate 4 refine rS ?_
 refine AWP.block ?_;generalize hz1:yh (ytr a0) (4-0) 0 []=z1 at hR;refine AWP.range (ytr a0) (fun i1 s1=>⟨[(0,encL 3 yq a0),(3,.str s1),(4,.ref 0 1 0 4),(5,.int .i64 (i1:Int))],[.arr 9 1 [[87],[82],[71],[89]].length (fun j=>eS ([[87],[82],[71],[89]].getD j default))]⟩) (fun i1 s1=>s1.length<=i1) (4) 0 [] [0] hz1 ot (by(simp)) sm ?_;clear hz1;intro i1 s1 hi1 hW1 hz1;refine rS ?_;refine AWP.cond rfl (fun hb => ?_) (fun hb => ?_)
 ·have hlt1:i1<4:=ot
  rw[yp hlt1]at hz1;simp only[ytr]at hz1;refine rS ?_;refine AWP.block ?_;generalize hz2:yh (y0s a0 i1 s1) (a0.length-0) 0 s1=z2 at hz1;refine AWP.range (y0s a0 i1 s1) (fun i2 s2=>⟨[(0,encL 3 yq a0),(3,.str s2),(4,.ref 0 1 0 4),(5,.int .i64 (i1:Int)),(6,.int .i64 (i2:Int))],[.arr 9 1 [[87],[82],[71],[89]].length (fun j=>eS ([[87],[82],[71],[89]].getD j default))]⟩) (fun i2 s2=>s2.length<=i1) (a0.length) 0 s1 [0] hz2 ot (by(exact hW1)) sm ?_;clear hz2;intro i2 s2 hi2 hW2 hz2;refine rS ?_;refine AWP.cond rfl (fun hb => ?_) (fun hb => ?_)
  ·have hlt2:i2<a0.length:=ot
   rw[yp hlt2]at hz2;simp only[y0s]at hz2;refine rD 9 ?_;refine AWP.cond rfl (fun hb => ?_) (fun hb => ?_)
   ·simp only[hb,cond_true]at hz2
    refine rS ?_;refine AWP.exit ?_;refine yhg rfl ?_;refine yd ?_;subst hz2;dsimp only at hz1;refine rS ?_;exact⟨_,[0],hlt1,by(have h4:=hq4 i1;simp only[ln]at *;omega),hz1,sm⟩
   ·simp only[hb,cond_false]at hz2
    refine rS ?_;exact⟨_,[0],hlt2,by(first|exact hW2|assumption),hz2,sm⟩
  ·obtain rfl:i2=a0.length:=ot
   rw[yn (Nat.le_refl _)]at hz2;subst hz2;dsimp only at hz1;refine AWP.exit ?_;refine yd ?_;refine rS ?_;exact⟨_,[0],hlt1,by(have h4:=hq4 i1;simp only[ln]at *;omega),hz1,sm⟩
 ·obtain rfl:i1=4:=ot
  rw[yn (Nat.le_refl _)]at hz1;subst hz1;dsimp only at hR;refine AWP.exit ?_;refine yd ?_;refine rS ?_;refine AWP.ret ?_;subst hR;exact es
end N122
def D_zy : DF
 | [x0]=>some (.str (zy (rdL yx x0)),false,[wL 3 yq yx x0,(rdL yx x0).length<1099511627776,∀ v∈(rdL yx x0),bdSector v])
 | _=>none
theorem yut:OkD Tryz.prog 122 D_zy:=by unfold D_zy;exact dk N122.den
def znb (a0:Int):Bool:=
 (zf a0 1 9)
namespace N52
theorem DD:DOk Tryz.prog (Go.Ab.DD [(81,dP D_zf)]):=ya yyd.e <| ye _
theorem dn:type_of% (@D_zf.eq_1):=by and_intros<;>intros<;>rfl
theorem ol:type_of% (@zf.eq_1):=@zf.eq_1
theorem den (a0:Int)  : Den Tryz.prog 52 [.int .i64 a0] (.bool (znb a0)):=by
 generalize hR:znb a0=r;unfold znb at hR;refine di Tryz.func52 Tryz.ntmps52 Tryz.results52 ?_;intro c hL hc hk;clear hL;simp only[pars,Nat.zero_add];iterate 2 refine rS ?_
 refine AWP.ret ?_;subst hR;exact es
end N52
def D_znb : DF
 | [x0]=>some (.bool (znb (rdI x0)),false,[wI .i64 x0])
 | _=>none
theorem yok:OkD Tryz.prog 52 D_znb:=by unfold D_znb;exact dk N52.den
def zuc (a0:Int):(List UInt8):=
 (([[],[82],[71],[66,89],[66,89,66],[89,66],[89,66,89],[66,82,66],[82,87],[89]]:List (List UInt8)).getD ((a0).toNat) default)
namespace N53
theorem DD:DOk Tryz.prog (Go.Ab.DD []):=ye _
theorem lx {p:Prop} (h:p:=by(exact lxx);first|done|fail):p:=h
theorem den (a0:Int) (hp0:0<=a0) (hp1:a0<=9):Den Tryz.prog 53 [.int .i64 a0] (.str (zuc a0)):=by
 generalize hR:zuc a0=r;unfold zuc at hR;refine di Tryz.func53 Tryz.ntmps53 Tryz.results53 ?_;intro c hL hc hk;clear hL;simp only[pars,Nat.zero_add];iterate 2 refine rS ?_
 refine AWP.ret ?_;subst hR;exact es
end N53
def D_zuc : DF
 | [x0]=>some (.str (zuc (rdI x0)),false,[wI .i64 x0,0<=(rdI x0),(rdI x0)<=9])
 | _=>none
theorem y6k:OkD Tryz.prog 53 D_zuc:=by unfold D_zuc;exact dk N53.den
end Go.Ab
