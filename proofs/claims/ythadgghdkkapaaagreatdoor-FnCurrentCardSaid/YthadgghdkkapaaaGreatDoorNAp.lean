/- A part of a proof: walks of functions and lemmas of our own. No conditions. -/
import Derived.Test.YthadgghdkkapaaaGreatDoorNAl
import Derived.Test.YthadgghdkkapaaaGreatDoorNAn
set_option linter.unusedSectionVars false
set_option linter.unusedVariables false
set_option linter.unusedSimpArgs false
set_option maxHeartbeats 1000000
namespace Go.Ab
open Go Go.Proofs
def zkb (a0:Int) (a1:Int):Bool:=
 decide (a0<=a1)
namespace N112
theorem DD:DOk Tryz.prog (Go.Ab.DD []):=ye _
theorem den (a0:Int) (a1:Int)  : Den Tryz.prog 112 [.int .i64 a0,.int .i64 a1] (.bool (zkb a0 a1)):=by
 generalize hR:zkb a0 a1=r;unfold zkb at hR;refine di Tryz.func112 Tryz.ntmps112 Tryz.results112 ?_;intro c hL hc hk;clear hL;simp only[pars,Nat.zero_add];iterate 2 refine rS ?_
 refine AWP.ret ?_;subst hR;exact es
end N112
def D_zkb : DF
 | [x0,x1]=>some (.bool (zkb (rdI x0) (rdI x1)),false,[wI .i64 x0,wI .i64 x1])
 | _=>none
theorem yqf:OkD Tryz.prog 112 D_zkb:=by unfold D_zkb;exact dk N112.den
def zlf (a0:Int):Bool:=
 (decide (48<=a0) && decide (a0<=57))
namespace N150
theorem DD:DOk Tryz.prog (Go.Ab.DD []):=ye _
theorem den (a0:Int)  : Den Tryz.prog 150 [.int .u8 a0] (.bool (zlf a0)):=by
 generalize hR:zlf a0=r;unfold zlf at hR;refine di Tryz.func150 Tryz.ntmps150 Tryz.results150 ?_;intro c hL hc hk;clear hL;simp only[pars,Nat.zero_add];iterate 2 refine rS ?_
 refine AWP.ret ?_;subst hR;exact es
end N150
def D_zlf : DF
 | [x0]=>some (.bool (zlf (rdI x0)),false,[wI .u8 x0])
 | _=>none
theorem y4y:OkD Tryz.prog 150 D_zlf:=by unfold D_zlf;exact dk N150.den
def ysp (a0:(List UInt8)) (i1:Nat) (s1:Unit):Except (Bool) (Unit):=
 (bif ((!(decide (97<=((a0.getD i1 0).toNat:Int)) && decide (((a0.getD i1 0).toNat:Int)<=122))) && (((i1:Int) == 0) || (!(zlf ((a0.getD i1 0).toNat:Int)))))then .error false else .ok ())
def zsd (a0:(List UInt8)):Bool:=
 (match yh (ysp a0) (a0.length-0) 0 ()with|.error e=>e|.ok s1=>((a0 != []) && (zkb (a0.length:Int) 10)))
namespace N100
theorem DD:DOk Tryz.prog (Go.Ab.DD [(112,dP D_zkb),(150,dP D_zlf)]):=ya yqf.e <| ya y4y.e <| ye _
theorem dn:type_of% (And.intro @D_zkb.eq_1 <| @D_zlf.eq_1):=by and_intros<;>intros<;>rfl
theorem den (a0:(List UInt8))  : Den Tryz.prog 100 [.str a0] (.bool (zsd a0)):=by
 generalize hR:zsd a0=r;unfold zsd at hR;refine di Tryz.func100 Tryz.ntmps100 Tryz.results100 ?_;intro c hL hc hk;obtain⟨hL0,_⟩:=hL;have hw0:a0.length<9223372036854775808:=Nat.lt_succ_of_le hL0;clear hL0;simp only[pars,Nat.zero_add];iterate 2 refine rS ?_
 refine AWP.block ?_;generalize hz1:yh (ysp a0) (a0.length-0) 0 ()=z1 at hR;refine AWP.range (ysp a0) (fun i1 s1=>⟨[(0,.str a0),(3,.int .i64 (i1:Int))],[]⟩) (fun i1 s1=>True) (a0.length) 0 () [] hz1 ot wt sm ?_;clear hz1;intro i1 s1 hi1 hW1 hz1;refine rS ?_;refine AWP.cond rfl (fun hb => ?_) (fun hb => ?_)
 ·have hlt1:i1<a0.length:=ot
  rw[yp hlt1]at hz1;simp only[ysp]at hz1;iterate 2 refine rS ?_
  refine AWP.cond rfl (fun hb => ?_) (fun hb => ?_)
  ·simp only[hb,cond_true]at hz1
   refine rS ?_;refine AWP.ret ?_;subst hz1;dsimp only at hR;subst hR;exact es
  ·simp only[hb,cond_false]at hz1
   refine rS ?_;exact⟨_,[],hlt1,wt,hz1,sm⟩
 ·obtain rfl:i1=a0.length:=ot
  rw[yn (Nat.le_refl _)]at hz1;subst hz1;dsimp only at hR;refine AWP.exit ?_;refine yd ?_;refine rS ?_;refine AWP.ret ?_;subst hR;exact es
end N100
def D_zsd : DF
 | [x0]=>some (.bool (zsd (rdS x0)),false,[wS x0])
 | _=>none
theorem yxx:OkD Tryz.prog 100 D_zsd:=by unfold D_zsd;exact dk N100.den
def zg (a0:Int) (a1:Int) (a2:Int):Bool:=
 (decide (a1<=a0) && decide (a0<=a2))
namespace N101
theorem DD:DOk Tryz.prog (Go.Ab.DD []):=ye _
theorem den (a0:Int) (a1:Int) (a2:Int)  : Den Tryz.prog 101 [.int .i64 a0,.int .i64 a1,.int .i64 a2] (.bool (zg a0 a1 a2)):=by
 generalize hR:zg a0 a1 a2=r;unfold zg at hR;refine di Tryz.func101 Tryz.ntmps101 Tryz.results101 ?_;intro c hL hc hk;clear hL;simp only[pars,Nat.zero_add];iterate 2 refine rS ?_
 refine AWP.ret ?_;subst hR;exact es
end N101
def D_zg : DF
 | [x0,x1,x2]=>some (.bool (zg (rdI x0) (rdI x1) (rdI x2)),false,[wI .i64 x0,wI .i64 x1,wI .i64 x2])
 | _=>none
theorem yrc:OkD Tryz.prog 101 D_zg:=by unfold D_zg;exact dk N101.den
def yun (a0:(List Int)) (i1:Nat) (s1:Int):Except (Bool) (Int):=
 (bif (!(zg (a0.getD i1 default) 1 9))then .error false else .ok (IntKind.wrap .i64 (s1+(a0.getD i1 default))))
def zrc (a0:(List Int)):Bool:=
 (match yh (yun a0) (a0.length-0) 0 0 with|.error e=>e|.ok s1=>(((zkb (a0.length:Int) 4) && decide (s1<=12)) && (!(zac a0 ([1]:List Int)))))
namespace N235
theorem DD:DOk Tryz.prog (Go.Ab.DD [(101,dP D_zg),(112,dP D_zkb),(236,dP D_zac)]):=ya yrc.e <| ya yqf.e <| ya ywq.e <| ye _
theorem dn:type_of% (And.intro @D_zg.eq_1 <| And.intro @D_zkb.eq_1 <| @D_zac.eq_1):=by and_intros<;>intros<;>rfl
theorem ol:type_of% (@zg.eq_1):=@zg.eq_1
theorem den (a0:(List Int))  : Den Tryz.prog 235 [encL 1 yu a0] (.bool (zrc a0)):=by
 generalize hR:zrc a0=r;unfold zrc at hR;refine di Tryz.func235 Tryz.ntmps235 Tryz.results235 ?_;intro c hL hc hk;obtain⟨hL0,_⟩:=hL;have hw0:a0.length<9223372036854775808:=Nat.lt_succ_of_le (yb hL0).1;clear hL0;simp only[pars,Nat.zero_add];iterate 3 refine rS ?_
 refine AWP.block ?_;generalize hz1:yh (yun a0) (a0.length-0) 0 0=z1 at hR;refine AWP.range (yun a0) (fun i1 s1=>⟨[(0,encL 1 yu a0),(3,.int .i64 s1),(6,encL 1 yu a0),(7,.int .i64 (a0.length:Int)),(8,.int .i64 (i1:Int))],[]⟩) (fun i1 s1=>True) (a0.length) 0 0 [] hz1 ot wt sm ?_;clear hz1;intro i1 s1 hi1 hW1 hz1;refine rS ?_;refine AWP.seq ?_;refine AWP.cond rfl (fun hb => ?_) (fun hb => ?_)
 ·have hlt1:i1<a0.length:=ot
  rw[yp hlt1]at hz1;simp only[yun]at hz1;iterate 2 refine rS ?_
  refine AWP.cond rfl (fun hb => ?_) (fun hb => ?_)
  ·simp only[hb,cond_true]at hz1
   refine rS ?_;refine AWP.ret ?_;subst hz1;dsimp only at hR;subst hR;exact es
  ·simp only[hb,cond_false]at hz1
   iterate 2 refine rS ?_
   exact⟨_,[],hlt1,wt,hz1,sm⟩
 ·obtain rfl:i1=a0.length:=ot
  rw[yn (Nat.le_refl _)]at hz1;subst hz1;dsimp only at hR;refine AWP.exit ?_;refine yd ?_;refine rS ?_;refine AWP.ret ?_;subst hR;exact es
end N235
def D_zrc : DF
 | [x0]=>some (.bool (zrc (rdL yhb x0)),false,[wL 1 yu yhb x0])
 | _=>none
theorem ylx:OkD Tryz.prog 235 D_zrc:=by unfold D_zrc;exact dk N235.den
def y1j (a0:(List UInt8)) (i1:Nat) (s1:Int):Except (Bool) (Int):=
 (bif decide ((zce [87,82,71,89] ((a0.getD i1 0).toNat:Int))<=s1)then .error false else .ok (zce [87,82,71,89] ((a0.getD i1 0).toNat:Int)))
def zmc (a0:(List UInt8)):Bool:=
 (match yh (y1j a0) (a0.length-0) 0 (-1)with|.error e=>e|.ok s1=>(zg (a0.length:Int) 1 3))
namespace N177
theorem DD:DOk Tryz.prog (Go.Ab.DD [(101,dP D_zg),(234,dP D_zce)]):=ya yrc.e <| ya y7w.e <| ye _
theorem dn:type_of% (And.intro @D_zg.eq_1 <| @D_zce.eq_1):=by and_intros<;>intros<;>rfl
theorem ol:type_of% (@zg.eq_1):=@zg.eq_1
theorem den (a0:(List UInt8))  : Den Tryz.prog 177 [.str a0] (.bool (zmc a0)):=by
 generalize hR:zmc a0=r;unfold zmc at hR;refine di Tryz.func177 Tryz.ntmps177 Tryz.results177 ?_;intro c hL hc hk;obtain⟨hL0,_⟩:=hL;have hw0:a0.length<9223372036854775808:=Nat.lt_succ_of_le hL0;clear hL0;simp only[pars,Nat.zero_add];iterate 3 refine rS ?_
 refine AWP.block ?_;generalize hz1:yh (y1j a0) (a0.length-0) 0 (-1)=z1 at hR;refine AWP.range (y1j a0) (fun i1 s1=>⟨[(0,.str a0),(3,.int .i64 s1),(4,.int .i64 (i1:Int))],[]⟩) (fun i1 s1=>True) (a0.length) 0 (-1) [] hz1 ot wt sm ?_;clear hz1;intro i1 s1 hi1 hW1 hz1;refine rS ?_;refine AWP.cond rfl (fun hb => ?_) (fun hb => ?_)
 ·have hlt1:i1<a0.length:=ot
  rw[yp hlt1]at hz1;simp only[y1j]at hz1;iterate 2 refine rS ?_
  refine AWP.cond rfl (fun hb => ?_) (fun hb => ?_)
  ·simp only[hb,cond_true]at hz1
   refine rS ?_;refine AWP.ret ?_;subst hz1;dsimp only at hR;subst hR;exact es
  ·simp only[hb,cond_false]at hz1
   iterate 2 refine rS ?_
   exact⟨_,[],hlt1,wt,hz1,sm⟩
 ·obtain rfl:i1=a0.length:=ot
  rw[yn (Nat.le_refl _)]at hz1;subst hz1;dsimp only at hR;refine AWP.exit ?_;refine yd ?_;refine rS ?_;refine AWP.ret ?_;subst hR;exact es
end N177
def D_zmc : DF
 | [x0]=>some (.bool (zmc (rdS x0)),false,[wS x0])
 | _=>none
theorem y5x:OkD Tryz.prog 177 D_zmc:=by unfold D_zmc;exact dk N177.den
def zqb (a0:(List UInt8)):(List UInt8):=
 (bif ((((a0.length:Int) != 1) || Op.bytesLess a0 [65]) || !(Op.bytesLess a0 [90] || a0 == [90]))then[]else([[46,45],[45,46,46,46],[45,46,45,46],[45,46,46],[46],[46,46,45,46],[45,45,46],[46,46,46,46],[46,46],[46,45,45,45],[45,46,45],[46,45,46,46],[45,45],[45,46],[45,45,45],[46,45,45,46],[45,45,46,45],[46,45,46],[46,46,46],[45],[46,46,45],[46,46,46,45],[46,45,45],[45,46,46,45],[45,46,45,45],[45,45,46,46]]:List (List UInt8)).getD ((IntKind.wrap .u8 (((a0.getD 0 0).toNat:Int)-65)).toNat) [])
namespace N237
theorem DD:DOk Tryz.prog (Go.Ab.DD []):=ye _
theorem o0 {p:Prop} (h:p:=by(first|(simp only[Bool.or_eq_false_iff,Bool.not_eq_false',Bool.or_eq_true,bne_eq_false_iff_eq]at hb;have h9:=yly a0 hb;have h8:=hb.1.1;and_intros<;>omega));first|done|fail):p:=h
theorem den (a0:(List UInt8))  : Den Tryz.prog 237 [.str a0] (.str (zqb a0)):=by
 generalize hR:zqb a0=r;unfold zqb at hR;refine di Tryz.func237 Tryz.ntmps237 Tryz.results237 ?_;intro c hL hc hk;obtain⟨hL0,_⟩:=hL;have hw0:a0.length<9223372036854775808:=Nat.lt_succ_of_le hL0;clear hL0;simp only[pars,Nat.zero_add];iterate 2 refine rS ?_
 refine AWP.cond rfl (fun hb => ?_) (fun hb => ?_)
 ·replace hR:=ct hR
  refine rS ?_;refine AWP.ret ?_;subst hR;exact es
 ·replace hR:=cf hR
  refine rS ?_;refine AWP.ret ?_;subst hR;exact es
end N237
def D_zqb : DF
 | [x0]=>some (.str (zqb (rdS x0)),false,[wS x0])
 | _=>none
theorem yhq:OkD Tryz.prog 237 D_zqb:=by unfold D_zqb;exact dk N237.den
def zic (a0:Character):Bool:=
 (bif (a0.Kind == 1)then(((a0.Group.length:Int) == 0) && (a0.Letter == []))else(bif (a0.Kind == 3)then(((a0.Group.length:Int) == 0) && (a0.Letter == []))else(bif (a0.Kind == 2)then((a0.Letter == []) && (zrc a0.Group))else(bif (a0.Kind == 4)then((a0.Letter == []) && (zrc a0.Group))else(bif (a0.Kind == 5)then((a0.Letter == []) && (zrc a0.Group))else(bif (a0.Kind == 6)then(bif (a0.Letter == [])then(((a0.Group.length:Int) == 0) || (((a0.Group.length:Int) == 1) && (zg (a0.Group.getD 0 default) 2 9)))else((a0.Letter == [76]) && (zac a0.Group ([6]:List Int))))else(bif (a0.Kind == 7)then(bif (a0.Letter == [])then(((a0.Group.length:Int) == 0) || (((a0.Group.length:Int) == 1) && (zg (a0.Group.getD 0 default) 2 9)))else((a0.Letter == [76]) && (zac a0.Group ([6]:List Int))))else(bif (a0.Kind == 8)then(((zqb a0.Letter) != []) && ((a0.Group.length:Int) == 0))else false))))))))
namespace N178
theorem DD:DOk Tryz.prog (Go.Ab.DD [(101,dP D_zg),(235,dP D_zrc),(236,dP D_zac),(237,dP D_zqb)]):=ya yrc.e <| ya ylx.e <| ya ywq.e <| ya yhq.e <| ye _
theorem dn:type_of% (And.intro @D_zg.eq_1 <| And.intro @D_zrc.eq_1 <| And.intro @D_zac.eq_1 <| @D_zqb.eq_1):=by and_intros<;>intros<;>rfl
theorem ol:type_of% (@zg.eq_1):=@zg.eq_1
theorem den (a0:Character)  : Den Tryz.prog 178 [.agg (yl a0)] (.bool (zic a0)):=by
 generalize hR:zic a0=r;unfold zic at hR;refine di Tryz.func178 Tryz.ntmps178 Tryz.results178 ?_;intro c hL hc hk;obtain⟨hL0,_⟩:=hL;have hw0:bwCharacter a0:=yw a0 hL0;clear hL0;simp only[pars,Nat.zero_add];iterate 3 refine rS ?_
 refine AWP.cond rfl (fun hb => ?_) (fun hb => ?_)
 ·replace hR:=ct hR
  refine AWP.skip ?_;refine AWP.cond rfl (fun hb => ?_) (fun hb => ?_)
  ·refine rS ?_
   refine AWP.ret ?_;subst hR;exact es
  ·exfalso;simp_all
 ·replace hR:=cf hR
  refine rS ?_;refine AWP.cond rfl (fun hb => ?_) (fun hb => ?_)
  ·replace hR:=ct hR
   refine rS ?_;refine AWP.ret ?_;subst hR;exact es
  ·replace hR:=cf hR
   refine rS ?_;refine AWP.cond rfl (fun hb => ?_) (fun hb => ?_)
   ·replace hR:=ct hR
    refine AWP.skip ?_;refine AWP.cond rfl (fun hb => ?_) (fun hb => ?_)
    ·refine rS ?_
     refine AWP.ret ?_;subst hR;exact es
    ·exfalso;simp_all
   ·replace hR:=cf hR
    refine rS ?_;refine AWP.cond rfl (fun hb => ?_) (fun hb => ?_)
    ·replace hR:=ct hR
     refine AWP.skip ?_;refine AWP.cond rfl (fun hb => ?_) (fun hb => ?_)
     ·refine rS ?_
      refine AWP.ret ?_;subst hR;exact es
     ·exfalso;simp_all
    ·replace hR:=cf hR
     refine rS ?_;refine AWP.cond rfl (fun hb => ?_) (fun hb => ?_)
     ·replace hR:=ct hR
      refine rS ?_;refine AWP.ret ?_;subst hR;exact es
     ·replace hR:=cf hR
      refine rS ?_;refine AWP.cond rfl (fun hb => ?_) (fun hb => ?_)
      ·replace hR:=ct hR
       refine AWP.skip ?_;refine AWP.cond rfl (fun hb => ?_) (fun hb => ?_)
       ·refine rS ?_
        refine AWP.cond rfl (fun hb => ?_) (fun hb => ?_)
        ·replace hR:=ct hR
         refine rS ?_;refine AWP.ret ?_;subst hR;exact es
        ·replace hR:=cf hR
         refine rS ?_;refine AWP.ret ?_;subst hR;exact es
       ·exfalso;simp_all
      ·replace hR:=cf hR
       refine rS ?_;refine AWP.cond rfl (fun hb => ?_) (fun hb => ?_)
       ·replace hR:=ct hR
        refine rS ?_;refine AWP.cond rfl (fun hb => ?_) (fun hb => ?_)
        ·replace hR:=ct hR
         refine rS ?_;refine AWP.ret ?_;subst hR;exact es
        ·replace hR:=cf hR
         refine rS ?_;refine AWP.ret ?_;subst hR;exact es
       ·replace hR:=cf hR
        refine rS ?_;refine AWP.cond rfl (fun hb => ?_) (fun hb => ?_)
        ·replace hR:=ct hR
         refine rS ?_;refine AWP.ret ?_;subst hR;exact es
        ·replace hR:=cf hR
         refine rS ?_;refine AWP.ret ?_;subst hR;exact es
end N178
def D_zic : DF
 | [x0]=>some (.bool (zic (rdG yg x0)),false,[wG yl yg x0])
 | _=>none
theorem yrv:OkD Tryz.prog 178 D_zic:=by unfold D_zic;exact dk N178.den
theorem ydh (a:List UInt8):zqb a=if a.length=1/\65<=(a.getD 0 0).toNat/\(a.getD 0 0).toNat<=90 then y1c.getD ((a.getD 0 0).toNat-65) []else[]:=by
 unfold zqb;by_cases h1:a.length=1
 ·have c1:((a.length:Int) != 1)=false:=by rw[h1];rfl
  rw[c1,yof a 65 h1,yof a 90 h1,yau a 90 h1];have e1:(65:UInt8).toNat=65:=rfl;have e2:(90:UInt8).toNat=90:=rfl;rw[e1,e2];by_cases h2:65<=(a.getD 0 0).toNat/\(a.getD 0 0).toNat<=90
  ·rw[if_pos ⟨h1,h2⟩,decide_eq_false (by omega)]
   have c2:(decide ((a.getD 0 0).toNat<90) || decide ((a.getD 0 0).toNat=90))=true:=by
    rw[Bool.or_eq_true,decide_eq_true_eq,decide_eq_true_eq];omega
   rw[c2];simp only[Bool.or_self,Bool.not_true,cond_false];rw[y2h _ (by omega) (by omega),show((((a.getD 0 0).toNat:Int)-65).toNat)=(a.getD 0 0).toNat-65 by omega];rfl
  ·rw[if_neg (fun h=>h2 h.2)]
   by_cases h3:(a.getD 0 0).toNat<65
   ·rw[decide_eq_true h3];rfl
   ·have c2:(decide ((a.getD 0 0).toNat<90) || decide ((a.getD 0 0).toNat=90))=false:=by
     rw[decide_eq_false (by omega),decide_eq_false (by omega)];rfl
    rw[c2,decide_eq_false h3];rfl
 ·have c1:((a.length:Int) != 1)=true:=by rw[bne_iff_ne];omega
  rw[c1,if_neg (fun h=>h1 h.1)];rfl
theorem y9u (a:List UInt8):(zqb a).length<=4:=by
 rw[ydh];split
 ·exact ylh _
 ·simp
theorem ylo (a:List UInt8):∀ x∈zqb a,x.toNat<128:=by
 intro x hx;rw[ydh]at hx;split at hx
 ·rw[List.getD_eq_getElem?_getD]at hx
  cases h:y1c[(a.getD 0 0).toNat-65]? with
  | none=>rw[h]at hx;simp at hx
  | some y=>
   rw[h]at hx;rcases(yrf y (List.mem_of_getElem? h)).2.2 x hx with e|e<;>subst e<;>decide
 ·simp at hx
def zag (a0:Int):Bool:=
 ((a0 == 6) || (a0 == 7))
namespace N238
theorem DD:DOk Tryz.prog (Go.Ab.DD []):=ye _
theorem den (a0:Int)  : Den Tryz.prog 238 [.int .i64 a0] (.bool (zag a0)):=by
 generalize hR:zag a0=r;unfold zag at hR;refine di Tryz.func238 Tryz.ntmps238 Tryz.results238 ?_;intro c hL hc hk;clear hL;simp only[pars,Nat.zero_add];iterate 2 refine rS ?_
 refine AWP.ret ?_;subst hR;exact es
end N238
def D_zag : DF
 | [x0]=>some (.bool (zag (rdI x0)),false,[wI .i64 x0])
 | _=>none
theorem yex:OkD Tryz.prog 238 D_zag:=by unfold D_zag;exact dk N238.den
def ztd (a0:Character):Bool:=
 ((a0.Kind == 1) || ((zag a0.Kind) && ((a0.Group.length:Int) == 0)))
namespace N179
theorem DD:DOk Tryz.prog (Go.Ab.DD [(238,dP D_zag)]):=ya yex.e <| ye _
theorem dn:type_of% (@D_zag.eq_1):=by and_intros<;>intros<;>rfl
theorem den (a0:Character)  : Den Tryz.prog 179 [.agg (yl a0)] (.bool (ztd a0)):=by
 generalize hR:ztd a0=r;unfold ztd at hR;refine di Tryz.func179 Tryz.ntmps179 Tryz.results179 ?_;intro c hL hc hk;obtain⟨hL0,_⟩:=hL;have hw0:bwCharacter a0:=yw a0 hL0;clear hL0;simp only[pars,Nat.zero_add];iterate 2 refine rS ?_
 refine AWP.ret ?_;subst hR;exact es
end N179
def D_ztd : DF
 | [x0]=>some (.bool (ztd (rdG yg x0)),false,[wG yl yg x0])
 | _=>none
theorem y2p:OkD Tryz.prog 179 D_ztd:=by unfold D_ztd;exact dk N179.den
def zt (a0:Int):(Int×Int×Int):=
 (bif (a0 == 2)then(10,10,15)else(bif (a0 == 4)then(5,15,20)else(bif (a0 == 5)then(20,20,25)else(bif (a0 == 6)then(5,5,20)else(bif (a0 == 7)then(2,3,10)else(bif (a0 == 8)then(5,5,30)else(0,0,0)))))))
namespace N191
theorem DD:DOk Tryz.prog (Go.Ab.DD []):=ye _
theorem den (a0:Int)  : Den Tryz.prog 191 [.int .i64 a0] (.tup [.int .i64 ((zt a0).1),.int .i64 ((zt a0).2.1),.int .i64 ((zt a0).2.2)]):=by
 generalize hR:zt a0=r;unfold zt at hR;refine di Tryz.func191 Tryz.ntmps191 Tryz.results191 ?_;intro c hL hc hk;clear hL;simp only[pars,Nat.zero_add];iterate 3 refine rS ?_
 refine AWP.cond rfl (fun hb => ?_) (fun hb => ?_)
 ·replace hR:=ct hR
  refine rS ?_;refine AWP.ret ?_;subst hR;exact es
 ·replace hR:=cf hR
  refine rS ?_;refine AWP.cond rfl (fun hb => ?_) (fun hb => ?_)
  ·replace hR:=ct hR
   refine rS ?_;refine AWP.ret ?_;subst hR;exact es
  ·replace hR:=cf hR
   refine rS ?_;refine AWP.cond rfl (fun hb => ?_) (fun hb => ?_)
   ·replace hR:=ct hR
    refine rS ?_;refine AWP.ret ?_;subst hR;exact es
   ·replace hR:=cf hR
    refine rS ?_;refine AWP.cond rfl (fun hb => ?_) (fun hb => ?_)
    ·replace hR:=ct hR
     refine rS ?_;refine AWP.ret ?_;subst hR;exact es
    ·replace hR:=cf hR
     refine rS ?_;refine AWP.cond rfl (fun hb => ?_) (fun hb => ?_)
     ·replace hR:=ct hR
      refine rS ?_;refine AWP.ret ?_;subst hR;exact es
     ·replace hR:=cf hR
      refine rS ?_;refine AWP.cond rfl (fun hb => ?_) (fun hb => ?_)
      ·replace hR:=ct hR
       refine rS ?_;refine AWP.ret ?_;subst hR;exact es
      ·replace hR:=cf hR
       refine rS ?_;refine AWP.ret ?_;subst hR;exact es
end N191
def D_zt : DF
 | [x0]=>some (.tup [.int .i64 ((zt (rdI x0)).1),.int .i64 ((zt (rdI x0)).2.1),.int .i64 ((zt (rdI x0)).2.2)],false,[wI .i64 x0])
 | _=>none
theorem ywt:OkD Tryz.prog 191 D_zt:=by unfold D_zt;exact dk N191.den
def y3r (a0:Character) (i1:Nat) (s1:List Int):Except ((List Int)) (List Int):=
 (bif decide (0<(i1:Int))then(bif ((((zqb a0.Letter).getD i1 0).toNat:Int) == 45)then .ok ((s1++([(zt a0.Kind).2.1]:List Int))++([IntKind.wrap .i64 (3 * ((zt a0.Kind).1))]:List Int))else .ok ((s1++([(zt a0.Kind).2.1]:List Int))++([(zt a0.Kind).1]:List Int)))else(bif ((((zqb a0.Letter).getD i1 0).toNat:Int) == 45)then .ok (s1++([IntKind.wrap .i64 (3 * ((zt a0.Kind).1))]:List Int))else .ok (s1++([(zt a0.Kind).1]:List Int))))
def yor (a0:Character) (i2:Nat) (s2:List Int) (i3:Nat) (s3:List Int):Except ((List Int)) (List Int):=
 (bif decide (0<(i3:Int))then .ok ((s3++([(zt a0.Kind).2.1]:List Int))++([(zt a0.Kind).1]:List Int))else(bif decide (0<(i2:Int))then .ok ((s3++([IntKind.wrap .i64 (((zt a0.Kind).2.1)+20)]:List Int))++([(zt a0.Kind).1]:List Int))else .ok (s3++([(zt a0.Kind).1]:List Int))))
def ynr (a0:Character) (i2:Nat) (s2:List Int):Except ((List Int)) (List Int):=
 (match yh (yor a0 i2 s2) (((([1]:List Int).getD i2 default)).toNat-0) 0 s2 with|.error e=>.error e|.ok s3=>.ok s3)
def yas (a0:Character) (i4:Nat) (s4:List Int) (i5:Nat) (s5:List Int):Except ((List Int)) (List Int):=
 (bif decide (0<(i5:Int))then .ok ((s5++([(zt a0.Kind).2.1]:List Int))++([(zt a0.Kind).1]:List Int))else(bif decide (0<(i4:Int))then .ok ((s5++([IntKind.wrap .i64 (((zt a0.Kind).2.1)+20)]:List Int))++([(zt a0.Kind).1]:List Int))else .ok (s5++([(zt a0.Kind).1]:List Int))))
def yis (a0:Character) (i4:Nat) (s4:List Int):Except ((List Int)) (List Int):=
 (match yh (yas a0 i4 s4) (((a0.Group.getD i4 default)).toNat-0) 0 s4 with|.error e=>.error e|.ok s5=>.ok s5)
def zr (a0:Character):(List Int):=
 (bif (a0.Kind == 8)then(match yh (y3r a0) ((zqb a0.Letter).length-0) 0 ([]:List Int)with|.error e=>e|.ok s1=>s1)else(bif ((a0.Group.length:Int) == 0)then(match yh (ynr a0) (1-0) 0 ([]:List Int)with|.error e=>e|.ok s2=>(bif (a0.Letter != [])then s2++([(zt a0.Kind).2.1,20]:List Int)else s2))else(match yh (yis a0) (a0.Group.length-0) 0 ([]:List Int)with|.error e=>e|.ok s4=>(bif (a0.Letter != [])then s4++([(zt a0.Kind).2.1,20]:List Int)else s4))))
namespace N192
theorem DD:DOk Tryz.prog (Go.Ab.DD [(191,dP D_zt),(237,dP D_zqb)]):=ya ywt.e <| ya yhq.e <| ye _
theorem dn:type_of% (And.intro @D_zt.eq_1 <| @D_zqb.eq_1):=by and_intros<;>intros<;>rfl
theorem o2 {p:Prop} (h:p:=by(first|(and_intros<;>first|decide|omega|(simp;(first|done|fail))|(rw[IntKind.wrap_i64];have:=hg9 i4;omega)|(rw[IntKind.wrap_i64];have:=hg1 i2;omega)|(rw[IntKind.wrap_i64];omega)|(intro i hi;exact ynk _ _ i hi)|(intro i hi;exact y1m _ _ _ i hi)));first|done|fail):p:=h
theorem o3 {p:Prop} (h:p:=by(first|(refine⟨⟨Nat.le_refl _,fun i hi=>yzl _ _ _ i hi⟩,.inl fun i hi=>by rw[yfh _ _ _ i hi];simp[NoBorL,NoBor],by simp,fun i hi=>by rw[yfh _ _ _ i hi];exact y8 _⟩));first|done|fail):p:=h
theorem lx {p:Prop} (h:p:=by(exact lxx);first|done|fail):p:=h
set_option maxHeartbeats 1000000 in
set_option maxRecDepth 20000 in
theorem den (a0:Character) (hb0:bdCharacter a0) (hp0:a0.Group.length<=4) (hp1:∀ v∈a0.Group,v<=9):Den Tryz.prog 192 [.agg (yl a0)] (ownL 2 1 yu (zr a0)):=by
 generalize hR:zr a0=r;unfold zr at hR;refine di Tryz.func192 Tryz.ntmps192 Tryz.results192 ?_;intro c hL hc hk;obtain⟨hL0,_⟩:=hL;have hw0:bwCharacter a0:=yw a0 hL0;clear hL0;simp only[pars,Nat.zero_add];have hg9:∀ i:Nat,a0.Group.getD i default<=9:=fun i=>ycl hp1 i
 have hs9:=y9u a0.Letter;have hs8:=ylo a0.Letter;have hg1:∀ i:Nat,([1]:List Int).getD i default<=9:=fun i=>ycl (by simp) i
 iterate 3 refine rS ?_
 refine AWP.cond rfl (fun hb => ?_) (fun hb => ?_)
 ·replace hR:=ct hR
  iterate 2 refine rS ?_
  refine AWP.block ?_;refine AWP.lensT 27 rfl (fun hLn1 => ?_);generalize hz1:yh (y3r a0) ((zqb a0.Letter).length-0) 0 ([]:List Int)=z1 at hR;refine AWP.range (y3r a0) (fun i1 s1=>⟨[(3,.int .i64 ((zt a0.Kind).1)),(4,.int .i64 ((zt a0.Kind).2.1)),(6,.ref 0 1 0 s1.length),(28,.ptr 1 0)],[.arr 2 1 s1.length (fun j=>yu (s1.getD j default)),.it (zqb a0.Letter) i1 (decide (i1<(zqb a0.Letter).length))]⟩) (fun i1 s1=>s1.length<=([]:List Int).length+2 * i1/\s1.length<=2 * i1) ((zqb a0.Letter).length) 0 ([]:List Int) [1,2] hz1 ot wt sm ?_;clear hz1;intro i1 s1 hi1 hW1 hz1;refine AWP.seq ?_;by_cases hlt1:i1<(zqb a0.Letter).length
  ·rw[yp hlt1]at hz1;simp only[y3r]at hz1
   rw[decide_eq_true hlt1];refine rS ?_;refine AWP.seq ?_;refine AWP.cond rfl (fun hb => ?_) (fun hb=>nomatch hb);iterate 2 refine rS ?_
   refine AWP.cond rfl (fun hb => ?_) (fun hb => ?_)
   ·simp only[hb,cond_true]at hz1
    iterate 2 refine rS ?_
    refine AWP.cond rfl (fun hb => ?_) (fun hb => ?_)
    ·simp only[hb,cond_true]at hz1
     refine rS ?_;exact⟨_,[5,1],hlt1,wt,hz1,sm⟩
    ·simp only[hb,cond_false]at hz1
     refine rS ?_;exact⟨_,[5,1],hlt1,wt,hz1,sm⟩
   ·simp only[hb,cond_false]at hz1
    refine rS ?_;refine AWP.cond rfl (fun hb => ?_) (fun hb => ?_)
    ·simp only[hb,cond_true]at hz1
     refine rS ?_;exact⟨_,[3,1],hlt1,wt,hz1,sm⟩
    ·simp only[hb,cond_false]at hz1
     refine rS ?_;exact⟨_,[3,1],hlt1,wt,hz1,sm⟩
  ·obtain rfl:i1=(zqb a0.Letter).length:=by omega
   rw[yn (Nat.le_refl _)]at hz1;subst hz1;dsimp only at hR;simp only[Nat.lt_irrefl,decide_false];refine rS ?_;refine AWP.seq ?_;refine AWP.cond rfl (fun hb=>nomatch hb) (fun hb => ?_);refine AWP.exit ?_;refine yd ?_;refine rS ?_;refine AWP.ret ?_;subst hR;exact es
 ·replace hR:=cf hR
  iterate 2 refine rS ?_
  refine AWP.cond rfl (fun hb => ?_) (fun hb => ?_)
  ·replace hR:=ct hR
   iterate 3 refine rS ?_
   refine AWP.block ?_;generalize hz2:yh (ynr a0) (1-0) 0 ([]:List Int)=z2 at hR;refine AWP.range (ynr a0) (fun i2 s2=>⟨[(1,.ptr 0 0),(3,.int .i64 ((zt a0.Kind).1)),(4,.int .i64 ((zt a0.Kind).2.1)),(10,.ref 1 1 0 s2.length),(58,.ref 2 1 0 1),(59,.int .i64 1),(60,.int .i64 (i2:Int))],[.box [.int .i64 a0.Kind,encL 1 yu a0.Group,.str a0.Letter,.str a0.Colors,.int .i64 a0.Period],.arr 2 1 s2.length (fun j=>yu (s2.getD j default)),.arr 2 1 ([1]:List Int).length (fun j=>yu (([1]:List Int).getD j default))]⟩) (fun i2 s2=>s2.length<=18 * i2) (1) 0 ([]:List Int) [0,2,1] hz2 ot wt sm ?_;clear hz2;intro i2 s2 hi2 hW2 hz2;refine rS ?_;refine AWP.seq ?_;refine AWP.cond rfl (fun hb => ?_) (fun hb => ?_)
   ·have hlt2:i2<1:=ot
    rw[yp hlt2]at hz2;simp only[ynr]at hz2;iterate 2 refine rS ?_
    refine AWP.block ?_;generalize hz3:yh (yor a0 i2 s2) (((([1]:List Int).getD i2 default)).toNat-0) 0 s2=z3 at hz2;refine AWP.range (yor a0 i2 s2) (fun i3 s3=>⟨[(1,.ptr 0 0),(3,.int .i64 ((zt a0.Kind).1)),(4,.int .i64 ((zt a0.Kind).2.1)),(10,.ref 1 1 0 s3.length),(11,.int .i64 (i2:Int)),(58,.ref 2 1 0 1),(59,.int .i64 1),(60,.int .i64 (i2:Int)),(65,.int .i64 (([1]:List Int).getD i2 default)),(66,.int .i64 (i3:Int))],[.box [.int .i64 a0.Kind,encL 1 yu a0.Group,.str a0.Letter,.str a0.Colors,.int .i64 a0.Period],.arr 2 1 s3.length (fun j=>yu (s3.getD j default)),.arr 2 1 ([1]:List Int).length (fun j=>yu (([1]:List Int).getD j default))]⟩) (fun i3 s3=>s3.length<=s2.length+2 * i3/\s3.length<=18 * i2+2 * i3) (((([1]:List Int).getD i2 default)).toNat) 0 s2 [0,1,2] hz3 ot wt sm ?_;clear hz3;intro i3 s3 hi3 hW3 hz3;refine rS ?_;refine AWP.seq ?_;refine AWP.cond rfl (fun hb => ?_) (fun hb => ?_)
    ·have hlt3:i3<((([1]:List Int).getD i2 default)).toNat:=ot
     rw[yp hlt3]at hz3;simp only[yor]at hz3;iterate 2 refine rS ?_
     refine AWP.cond rfl (fun hb => ?_) (fun hb => ?_)
     ·simp only[hb,cond_true]at hz3
      iterate 3 refine rS ?_
      exact⟨_,[0,6,2],hlt3,wt,hz3,sm⟩
     ·simp only[hb,cond_false]at hz3
      refine rS ?_;refine AWP.cond rfl (fun hb => ?_) (fun hb => ?_)
      ·simp only[hb,cond_true]at hz3
       iterate 3 refine rS ?_
       exact⟨_,[0,6,2],hlt3,wt,hz3,sm⟩
      ·simp only[hb,cond_false]at hz3
       iterate 2 refine rS ?_
       exact⟨_,[0,4,2],hlt3,wt,hz3,sm⟩
    ·obtain rfl:i3=((([1]:List Int).getD i2 default)).toNat:=ot
     rw[yn (Nat.le_refl _)]at hz3;subst hz3;dsimp only at hz2;refine AWP.exit ?_;refine yd ?_;refine rS ?_;exact⟨_,[0,1,2],hlt2,by(have h9:=hg1 i2;omega),hz2,sm⟩
   ·obtain rfl:i2=1:=ot
    rw[yn (Nat.le_refl _)]at hz2;subst hz2;dsimp only at hR;refine AWP.exit ?_;refine yd ?_;refine rS ?_;refine AWP.cond rfl (fun hb => ?_) (fun hb => ?_)
    ·replace hR:=ct hR
     iterate 2 refine rS ?_
     refine AWP.ret ?_;subst hR;exact es
    ·replace hR:=cf hR
     refine rS ?_;refine AWP.ret ?_;subst hR;exact es
  ·replace hR:=cf hR
   iterate 2 refine rS ?_
   refine AWP.block ?_;refine AWP.lensS 9 rfl (fun hLn4 => ?_);generalize hz4:yh (yis a0) (a0.Group.length-0) 0 ([]:List Int)=z4 at hR;refine AWP.range (yis a0) (fun i4 s4=>⟨[(1,.ptr 0 0),(3,.int .i64 ((zt a0.Kind).1)),(4,.int .i64 ((zt a0.Kind).2.1)),(10,.ref 1 1 0 s4.length),(58,encL 1 yu a0.Group),(59,.int .i64 (a0.Group.length:Int)),(60,.int .i64 (i4:Int))],[.box [.int .i64 a0.Kind,encL 1 yu a0.Group,.str a0.Letter,.str a0.Colors,.int .i64 a0.Period],.arr 2 1 s4.length (fun j=>yu (s4.getD j default))]⟩) (fun i4 s4=>s4.length<=18 * i4) (a0.Group.length) 0 ([]:List Int) [0,1] hz4 ot wt sm ?_;clear hz4;intro i4 s4 hi4 hW4 hz4;refine rS ?_;refine AWP.seq ?_;refine AWP.cond rfl (fun hb => ?_) (fun hb => ?_)
   ·have hlt4:i4<a0.Group.length:=ot
    rw[yp hlt4]at hz4;simp only[yis]at hz4;iterate 2 refine rS ?_
    refine AWP.block ?_;generalize hz5:yh (yas a0 i4 s4) (((a0.Group.getD i4 default)).toNat-0) 0 s4=z5 at hz4;refine AWP.range (yas a0 i4 s4) (fun i5 s5=>⟨[(1,.ptr 0 0),(3,.int .i64 ((zt a0.Kind).1)),(4,.int .i64 ((zt a0.Kind).2.1)),(10,.ref 1 1 0 s5.length),(11,.int .i64 (i4:Int)),(58,encL 1 yu a0.Group),(59,.int .i64 (a0.Group.length:Int)),(60,.int .i64 (i4:Int)),(65,.int .i64 (a0.Group.getD i4 default)),(66,.int .i64 (i5:Int))],[.box [.int .i64 a0.Kind,encL 1 yu a0.Group,.str a0.Letter,.str a0.Colors,.int .i64 a0.Period],.arr 2 1 s5.length (fun j=>yu (s5.getD j default))]⟩) (fun i5 s5=>s5.length<=s4.length+2 * i5/\s5.length<=18 * i4+2 * i5) (((a0.Group.getD i4 default)).toNat) 0 s4 [0,1] hz5 ot wt sm ?_;clear hz5;intro i5 s5 hi5 hW5 hz5;refine rS ?_;refine AWP.seq ?_;refine AWP.cond rfl (fun hb => ?_) (fun hb => ?_)
    ·have hlt5:i5<((a0.Group.getD i4 default)).toNat:=ot
     rw[yp hlt5]at hz5;simp only[yas]at hz5;iterate 2 refine rS ?_
     refine AWP.cond rfl (fun hb => ?_) (fun hb => ?_)
     ·simp only[hb,cond_true]at hz5
      iterate 3 refine rS ?_
      exact⟨_,[0,5],hlt5,wt,hz5,sm⟩
     ·simp only[hb,cond_false]at hz5
      refine rS ?_;refine AWP.cond rfl (fun hb => ?_) (fun hb => ?_)
      ·simp only[hb,cond_true]at hz5
       iterate 3 refine rS ?_
       exact⟨_,[0,5],hlt5,wt,hz5,sm⟩
      ·simp only[hb,cond_false]at hz5
       iterate 2 refine rS ?_
       exact⟨_,[0,3],hlt5,wt,hz5,sm⟩
    ·obtain rfl:i5=((a0.Group.getD i4 default)).toNat:=ot
     rw[yn (Nat.le_refl _)]at hz5;subst hz5;dsimp only at hz4;refine AWP.exit ?_;refine yd ?_;refine rS ?_;exact⟨_,[0,1],hlt4,by(have h9:=hg9 i4;omega),hz4,sm⟩
   ·obtain rfl:i4=a0.Group.length:=ot
    rw[yn (Nat.le_refl _)]at hz4;subst hz4;dsimp only at hR;refine AWP.exit ?_;refine yd ?_;refine rS ?_;refine AWP.cond rfl (fun hb => ?_) (fun hb => ?_)
    ·replace hR:=ct hR
     iterate 2 refine rS ?_
     refine AWP.ret ?_;subst hR;exact es
    ·replace hR:=cf hR
     refine rS ?_;refine AWP.ret ?_;subst hR;exact es
end N192
def D_zr : DF
 | [x0]=>some (ownL 2 1 yu (zr (rdG yg x0)),false,[wG yl yg x0,bdCharacter (rdG yg x0),(rdG yg x0).Group.length<=4,∀ v∈(rdG yg x0).Group,v<=9])
 | _=>none
theorem y30:OkD Tryz.prog 192 D_zr:=by unfold D_zr;exact dk N192.den
def ysq (a0:(List Int)) (i1:Nat) (s1:Int):Except (Int) (Int):=
 .ok (IntKind.wrap .i64 (s1+(a0.getD i1 default)))
def zae (a0:(List Int)):Int:=
 (match yh (ysq a0) (a0.length-0) 0 0 with|.error e=>e|.ok s1=>s1)
namespace N193
theorem DD:DOk Tryz.prog (Go.Ab.DD []):=ye _
theorem den (a0:(List Int))  : Den Tryz.prog 193 [encL 1 yu a0] (.int .i64 (zae a0)):=by
 generalize hR:zae a0=r;unfold zae at hR;refine di Tryz.func193 Tryz.ntmps193 Tryz.results193 ?_;intro c hL hc hk;obtain⟨hL0,_⟩:=hL;have hw0:a0.length<9223372036854775808:=Nat.lt_succ_of_le (yb hL0).1;clear hL0;simp only[pars,Nat.zero_add];iterate 3 refine rS ?_
 refine AWP.block ?_;generalize hz1:yh (ysq a0) (a0.length-0) 0 0=z1 at hR;refine AWP.range (ysq a0) (fun i1 s1=>⟨[(3,.int .i64 s1),(6,encL 1 yu a0),(7,.int .i64 (a0.length:Int)),(8,.int .i64 (i1:Int))],[]⟩) (fun i1 s1=>True) (a0.length) 0 0 [] hz1 ot wt sm ?_;clear hz1;intro i1 s1 hi1 hW1 hz1;refine rS ?_;refine AWP.seq ?_;refine AWP.cond rfl (fun hb => ?_) (fun hb => ?_)
 ·have hlt1:i1<a0.length:=ot
  rw[yp hlt1]at hz1;simp only[ysq]at hz1;iterate 3 refine rS ?_
  exact⟨_,[],hlt1,wt,hz1,sm⟩
 ·obtain rfl:i1=a0.length:=ot
  rw[yn (Nat.le_refl _)]at hz1;subst hz1;dsimp only at hR;refine AWP.exit ?_;refine yd ?_;refine rS ?_;refine AWP.ret ?_;subst hR;exact es
end N193
def D_zae : DF
 | [x0]=>some (.int .i64 (zae (rdL yhb x0)),false,[wL 1 yu yhb x0])
 | _=>none
theorem ykw:OkD Tryz.prog 193 D_zae:=by unfold D_zae;exact dk N193.den
def zbf (a0:Character):Int:=
 (bif (ztd a0)then 0 else(bif (a0.Kind == 3)then 20 else(bif decide (1<(a0.Group.length:Int))then IntKind.wrap .i64 ((zae (zr a0))+(IntKind.wrap .i64 (((zt a0.Kind).2.2)+20)))else IntKind.wrap .i64 ((zae (zr a0))+((zt a0.Kind).2.2)))))
namespace N180
theorem DD:DOk Tryz.prog (Go.Ab.DD [(179,dP D_ztd),(191,dP D_zt),(192,dP D_zr),(193,dP D_zae)]):=ya y2p.e <| ya ywt.e <| ya y30.e <| ya ykw.e <| ye _
theorem dn:type_of% (And.intro @D_ztd.eq_1 <| And.intro @D_zt.eq_1 <| And.intro @D_zr.eq_1 <| @D_zae.eq_1):=by and_intros<;>intros<;>rfl
theorem den (a0:Character) (hb0:bdCharacter a0) (hp0:a0.Group.length<=4) (hp1:∀ v∈a0.Group,v<=9):Den Tryz.prog 180 [.agg (yl a0)] (.int .i64 (zbf a0)):=by
 generalize hR:zbf a0=r;unfold zbf at hR;refine di Tryz.func180 Tryz.ntmps180 Tryz.results180 ?_;intro c hL hc hk;obtain⟨hL0,_⟩:=hL;have hw0:bwCharacter a0:=yw a0 hL0;clear hL0;simp only[pars,Nat.zero_add];iterate 2 refine rS ?_
 refine AWP.cond rfl (fun hb => ?_) (fun hb => ?_)
 ·replace hR:=ct hR
  refine rS ?_;refine AWP.ret ?_;subst hR;exact es
 ·replace hR:=cf hR
  refine rS ?_;refine AWP.cond rfl (fun hb => ?_) (fun hb => ?_)
  ·replace hR:=ct hR
   refine rS ?_;refine AWP.ret ?_;subst hR;exact es
  ·replace hR:=cf hR
   iterate 2 refine rS ?_
   refine AWP.cond rfl (fun hb => ?_) (fun hb => ?_)
   ·replace hR:=ct hR
    iterate 2 refine rS ?_
    refine AWP.ret ?_;subst hR;exact es
   ·replace hR:=cf hR
    refine rS ?_;refine AWP.ret ?_;subst hR;exact es
end N180
def D_zbf : DF
 | [x0]=>some (.int .i64 (zbf (rdG yg x0)),false,[wG yl yg x0,bdCharacter (rdG yg x0),(rdG yg x0).Group.length<=4,∀ v∈(rdG yg x0).Group,v<=9])
 | _=>none
theorem yoy:OkD Tryz.prog 180 D_zbf:=by unfold D_zbf;exact dk N180.den
def zmf (a0:Int):Bool:=
 (zg a0 0 359)
namespace N151
theorem DD:DOk Tryz.prog (Go.Ab.DD [(101,dP D_zg)]):=ya yrc.e <| ye _
theorem dn:type_of% (@D_zg.eq_1):=by and_intros<;>intros<;>rfl
theorem ol:type_of% (@zg.eq_1):=@zg.eq_1
theorem den (a0:Int)  : Den Tryz.prog 151 [.int .i64 a0] (.bool (zmf a0)):=by
 generalize hR:zmf a0=r;unfold zmf at hR;refine di Tryz.func151 Tryz.ntmps151 Tryz.results151 ?_;intro c hL hc hk;clear hL;simp only[pars,Nat.zero_add];iterate 2 refine rS ?_
 refine AWP.ret ?_;subst hR;exact es
end N151
def D_zmf : DF
 | [x0]=>some (.bool (zmf (rdI x0)),false,[wI .i64 x0])
 | _=>none
theorem yix:OkD Tryz.prog 151 D_zmf:=by unfold D_zmf;exact dk N151.den
def zcf (a0:(List UInt8)):Bool:=
 (((a0.length:Int) == 1) && (zob [87,82,71,89] a0))
namespace N239
theorem DD:DOk Tryz.prog (Go.Ab.DD [(131,dP D_zob)]):=ya yuq.e <| ye _
theorem dn:type_of% (@D_zob.eq_1):=by and_intros<;>intros<;>rfl
theorem den (a0:(List UInt8))  : Den Tryz.prog 239 [.str a0] (.bool (zcf a0)):=by
 generalize hR:zcf a0=r;unfold zcf at hR;refine di Tryz.func239 Tryz.ntmps239 Tryz.results239 ?_;intro c hL hc hk;obtain⟨hL0,_⟩:=hL;have hw0:a0.length<9223372036854775808:=Nat.lt_succ_of_le hL0;clear hL0;simp only[pars,Nat.zero_add];iterate 2 refine rS ?_
 refine AWP.ret ?_;subst hR;exact es
end N239
def D_zcf : DF
 | [x0]=>some (.bool (zcf (rdS x0)),false,[wS x0])
 | _=>none
theorem yvy:OkD Tryz.prog 239 D_zcf:=by unfold D_zcf;exact dk N239.den
def zdf (a0:Sector):Bool:=
 (((zmf a0.From) && (zmf a0.To)) && (zcf a0.Color))
namespace N181
theorem DD:DOk Tryz.prog (Go.Ab.DD [(151,dP D_zmf),(239,dP D_zcf)]):=ya yix.e <| ya yvy.e <| ye _
theorem dn:type_of% (And.intro @D_zmf.eq_1 <| @D_zcf.eq_1):=by and_intros<;>intros<;>rfl
theorem den (a0:Sector)  : Den Tryz.prog 181 [.agg (yq a0)] (.bool (zdf a0)):=by
 generalize hR:zdf a0=r;unfold zdf at hR;refine di Tryz.func181 Tryz.ntmps181 Tryz.results181 ?_;intro c hL hc hk;obtain⟨hL0,_⟩:=hL;have hw0:bwSector a0:=y7 a0 hL0;clear hL0;simp only[pars,Nat.zero_add];iterate 2 refine rS ?_
 refine AWP.ret ?_;subst hR;exact es
end N181
def D_zdf : DF
 | [x0]=>some (.bool (zdf (rdG yx x0)),false,[wG yq yx x0])
 | _=>none
theorem yvx:OkD Tryz.prog 181 D_zdf:=by unfold D_zdf;exact dk N181.den
def zde (a0:Int) (a1:Int):Int:=
 (IntKind.wrap .i64 ((a0.tmod a1)+a1)).tmod a1
namespace N240
theorem DD:DOk Tryz.prog (Go.Ab.DD []):=ye _
theorem den (a0:Int) (a1:Int) (hp0:0<a1):Den Tryz.prog 240 [.int .i64 a0,.int .i64 a1] (.int .i64 (zde a0 a1)):=by
 generalize hR:zde a0 a1=r;unfold zde at hR;refine di Tryz.func240 Tryz.ntmps240 Tryz.results240 ?_;intro c hL hc hk;clear hL;simp only[pars,Nat.zero_add];iterate 2 refine rS ?_
 refine AWP.ret ?_;subst hR;exact es
end N240
def D_zde : DF
 | [x0,x1]=>some (.int .i64 (zde (rdI x0) (rdI x1)),false,[wI .i64 x0,wI .i64 x1,0<(rdI x1)])
 | _=>none
theorem yup:OkD Tryz.prog 240 D_zde:=by unfold D_zde;exact dk N240.den
def zad (a0:Sector):Int:=
 IntKind.wrap .i64 ((zde (IntKind.wrap .i64 ((IntKind.wrap .i64 (a0.To-a0.From))-1)) 360)+1)
namespace N183
theorem DD:DOk Tryz.prog (Go.Ab.DD [(240,dP D_zde)]):=ya yup.e <| ye _
theorem dn:type_of% (@D_zde.eq_1):=by and_intros<;>intros<;>rfl
theorem den (a0:Sector)  : Den Tryz.prog 183 [.agg (yq a0)] (.int .i64 (zad a0)):=by
 generalize hR:zad a0=r;unfold zad at hR;refine di Tryz.func183 Tryz.ntmps183 Tryz.results183 ?_;intro c hL hc hk;obtain⟨hL0,_⟩:=hL;have hw0:bwSector a0:=y7 a0 hL0;clear hL0;simp only[pars,Nat.zero_add];iterate 2 refine rS ?_
 refine AWP.ret ?_;subst hR;exact es
end N183
def D_zad : DF
 | [x0]=>some (.int .i64 (zad (rdG yx x0)),false,[wG yq yx x0])
 | _=>none
theorem y9q:OkD Tryz.prog 183 D_zad:=by unfold D_zad;exact dk N183.den
def zqe (a0:Sector) (a1:Int):Bool:=
 decide ((zde (IntKind.wrap .i64 (a1-a0.From)) 360)<(zad a0))
namespace N182
theorem DD:DOk Tryz.prog (Go.Ab.DD [(183,dP D_zad),(240,dP D_zde)]):=ya y9q.e <| ya yup.e <| ye _
theorem dn:type_of% (And.intro @D_zad.eq_1 <| @D_zde.eq_1):=by and_intros<;>intros<;>rfl
theorem den (a0:Sector) (a1:Int)  : Den Tryz.prog 182 [.agg (yq a0),.int .i64 a1] (.bool (zqe a0 a1)):=by
 generalize hR:zqe a0 a1=r;unfold zqe at hR;refine di Tryz.func182 Tryz.ntmps182 Tryz.results182 ?_;intro c hL hc hk;obtain⟨hL0,hL1,_⟩:=hL;have hw0:bwSector a0:=y7 a0 hL0;clear hL0 hL1;simp only[pars,Nat.zero_add];refine rS ?_;refine rD 6 ?_;refine AWP.ret ?_;subst hR;exact es
end N182
def D_zqe : DF
 | [x0,x1]=>some (.bool (zqe (rdG yx x0) (rdI x1)),false,[wG yq yx x0,wI .i64 x1])
 | _=>none
theorem yww:OkD Tryz.prog 182 D_zqe:=by unfold D_zqe;exact dk N182.den
def ywm (a0:(List Sector)) (i1:Nat) (s1:Int) (i2:Nat) (s2:Unit):Except (Bool) (Unit):=
 (bif (((i2:Int) != (i1:Int)) && (zqe (a0.getD i1 default) ((a0.getD i2 default).From)))then .error false else .ok ())
def ydj (a0:(List Sector)) (i1:Nat) (s1:Int):Except (Bool) (Int):=
 (bif ((!(zdf (a0.getD i1 default))) || (decide (0<(i1:Int)) && decide (((a0.getD i1 default).From)<=((a0.getD ((IntKind.wrap .i64 ((i1:Int)-1)).toNat) default).From))))then .error false else(match yh (ywm a0 i1 s1) (a0.length-0) 0 ()with|.error e=>.error e|.ok s2=>.ok (IntKind.wrap .i64 (s1+(zad (a0.getD i1 default))))))
def zbc (a0:(List Sector)):Bool:=
 (match yh (ydj a0) (a0.length-0) 0 0 with|.error e=>e|.ok s1=>((zkb (a0.length:Int) 12) && decide (s1<=360)))
namespace N129
theorem DD:DOk Tryz.prog (Go.Ab.DD [(112,dP D_zkb),(181,dP D_zdf),(182,dP D_zqe),(183,dP D_zad)]):=ya yqf.e <| ya yvx.e <| ya yww.e <| ya y9q.e <| ye _
theorem dn:type_of% (And.intro @D_zkb.eq_1 <| And.intro @D_zdf.eq_1 <| And.intro @D_zqe.eq_1 <| @D_zad.eq_1):=by and_intros<;>intros<;>rfl
theorem den (a0:(List Sector))  : Den Tryz.prog 129 [encL 3 yq a0] (.bool (zbc a0)):=by
 generalize hR:zbc a0=r;unfold zbc at hR;refine di Tryz.func129 Tryz.ntmps129 Tryz.results129 ?_;intro c hL hc hk;obtain⟨hL0,_⟩:=hL;have hw0:a0.length<9223372036854775808:=Nat.lt_succ_of_le (yb hL0).1;have hw1:∀ v∈a0,bwSector v:=fun v hv=>y7 v ((yb hL0).2 v hv)
 clear hL0;simp only[pars,Nat.zero_add];iterate 3 refine rS ?_
 refine AWP.block ?_;generalize hz1:yh (ydj a0) (a0.length-0) 0 0=z1 at hR;refine AWP.range (ydj a0) (fun i1 s1=>⟨[(0,encL 3 yq a0),(3,.int .i64 s1),(8,encL 3 yq a0),(9,.int .i64 (a0.length:Int)),(10,.int .i64 (i1:Int))],[]⟩) (fun i1 s1=>True) (a0.length) 0 0 [] hz1 ot wt sm ?_;clear hz1;intro i1 s1 hi1 hW1 hz1;refine rS ?_;refine AWP.seq ?_;refine AWP.cond rfl (fun hb => ?_) (fun hb => ?_)
 ·have hlt1:i1<a0.length:=ot
  rw[yp hlt1]at hz1;simp only[ydj]at hz1;refine rS ?_;refine rD 18 ?_;refine AWP.cond rfl (fun hb => ?_) (fun hb => ?_)
  ·simp only[hb,cond_true]at hz1
   refine rS ?_;refine AWP.ret ?_;subst hz1;dsimp only at hR;subst hR;exact es
  ·simp only[hb,cond_false]at hz1
   refine rS ?_;refine AWP.block ?_;generalize hz2:yh (ywm a0 i1 s1) (a0.length-0) 0 ()=z2 at hz1;refine AWP.range (ywm a0 i1 s1) (fun i2 s2=>⟨[(0,encL 3 yq a0),(3,.int .i64 s1),(4,.int .i64 (i1:Int)),(5,.ptr 0 0),(8,encL 3 yq a0),(9,.int .i64 (a0.length:Int)),(10,.int .i64 (i1:Int)),(33,encL 3 yq a0),(34,.int .i64 (a0.length:Int)),(35,.int .i64 (i2:Int))],[.box [.int .i64 ((a0.getD i1 default).From),.int .i64 ((a0.getD i1 default).To),.str ((a0.getD i1 default).Color)]]⟩) (fun i2 s2=>True) (a0.length) 0 () [0] hz2 ot wt sm ?_;clear hz2;intro i2 s2 hi2 hW2 hz2;refine rS ?_;refine AWP.seq ?_;refine AWP.cond rfl (fun hb => ?_) (fun hb => ?_)
   ·have hlt2:i2<a0.length:=ot
    rw[yp hlt2]at hz2;simp only[ywm]at hz2;iterate 2 refine rS ?_
    refine AWP.cond rfl (fun hb => ?_) (fun hb => ?_)
    ·simp only[hb,cond_true]at hz2
     refine rS ?_;refine AWP.ret ?_;subst hz2;dsimp only at hz1;subst hz1;dsimp only at hR;subst hR;exact es
    ·simp only[hb,cond_false]at hz2
     refine rS ?_;exact⟨_,[0],hlt2,wt,hz2,sm⟩
   ·obtain rfl:i2=a0.length:=ot
    rw[yn (Nat.le_refl _)]at hz2;subst hz2;dsimp only at hz1;refine AWP.exit ?_;refine yd ?_;iterate 2 refine rS ?_
    exact⟨_,[],hlt1,wt,hz1,sm⟩
 ·obtain rfl:i1=a0.length:=ot
  rw[yn (Nat.le_refl _)]at hz1;subst hz1;dsimp only at hR;refine AWP.exit ?_;refine yd ?_;refine rS ?_;refine AWP.ret ?_;subst hR;exact es
end N129
def D_zbc : DF
 | [x0]=>some (.bool (zbc (rdL yx x0)),false,[wL 3 yq yx x0])
 | _=>none
theorem yev:OkD Tryz.prog 129 D_zbc:=by unfold D_zbc;exact dk N129.den
def ygm (a0:(List Sector)) (i1:Nat) (s1:List UInt8) (i2:Nat) (s2:List UInt8):Except ((List UInt8)) (List UInt8):=
 (bif ((((a0.getD i2 default).Color) == (([87,82,71,89].take ((IntKind.wrap .i64 ((i1:Int)+1)).toNat)).drop i1)) && (!(zob s2 (([87,82,71,89].take ((IntKind.wrap .i64 ((i1:Int)+1)).toNat)).drop i1))))then .ok (s2++(([87,82,71,89].take ((IntKind.wrap .i64 ((i1:Int)+1)).toNat)).drop i1))else .ok s2)
def ysj (a0:(List Sector)) (i1:Nat) (s1:List UInt8):Except ((List UInt8)) (List UInt8):=
 (match yh (ygm a0 i1 s1) (a0.length-0) 0 s1 with|.error e=>.error e|.ok s2=>.ok s2)
def zcc (a0:(List Sector)):(List UInt8):=
 (match yh (ysj a0) ([87,82,71,89].length-0) 0 []with|.error e=>e|.ok s1=>s1)
namespace N130
theorem DD:DOk Tryz.prog (Go.Ab.DD [(131,dP D_zob)]):=ya yuq.e <| ye _
theorem dn:type_of% (@D_zob.eq_1):=by and_intros<;>intros<;>rfl
theorem o0 {p:Prop} (h:p:=by(first|(have h4:=hq4 i1;have h1:=hW1;have h2:=hW2;and_intros<;>first|omega|exact ytp (by omega)));first|done|fail):p:=h
theorem den (a0:(List Sector)) (hb0:a0.length<1099511627776) (hb1:∀ v∈a0,bdSector v):Den Tryz.prog 130 [encL 3 yq a0] (.str (zcc a0)):=by
 generalize hR:zcc a0=r;unfold zcc at hR;refine di Tryz.func130 Tryz.ntmps130 Tryz.results130 ?_;intro c hL hc hk;obtain⟨hL0,_⟩:=hL;have hw0:a0.length<9223372036854775808:=Nat.lt_succ_of_le (yb hL0).1;have hw1:∀ v∈a0,bwSector v:=fun v hv=>y7 v ((yb hL0).2 v hv)
 clear hL0;simp only[pars,Nat.zero_add];have hq4:=ylv;iterate 3 refine rS ?_
 refine AWP.block ?_;generalize hz1:yh (ysj a0) ([87,82,71,89].length-0) 0 []=z1 at hR;refine AWP.range (ysj a0) (fun i1 s1=>⟨[(0,encL 3 yq a0),(3,.str s1),(8,.ptr 0 0)],[.it [87,82,71,89] i1 (decide (i1<[87,82,71,89].length))]⟩) (fun i1 s1=>s1.length<=1099511627776 * i1) ([87,82,71,89].length) 0 [] [0] hz1 ot (by(simp)) sm ?_;clear hz1;intro i1 s1 hi1 hW1 hz1;refine AWP.seq ?_;by_cases hlt1:i1<[87,82,71,89].length
 ·rw[yp hlt1]at hz1;simp only[ysj]at hz1
  rw[decide_eq_true hlt1];refine rS ?_;refine AWP.seq ?_;refine AWP.cond rfl (fun hb => ?_) (fun hb=>nomatch hb);iterate 2 refine rS ?_
  refine AWP.block ?_;generalize hz2:yh (ygm a0 i1 s1) (a0.length-0) 0 s1=z2 at hz1;refine AWP.range (ygm a0 i1 s1) (fun i2 s2=>⟨[(0,encL 3 yq a0),(3,.str s2),(4,.int .i64 (i1:Int)),(8,.ptr 0 0),(12,encL 3 yq a0),(13,.int .i64 (a0.length:Int)),(14,.int .i64 (i2:Int))],[.it [87,82,71,89] (i1+1) (decide (i1+1<[87,82,71,89].length))]⟩) (fun i2 s2=>s2.length<=1099511627776 * i1+i2) (a0.length) 0 s1 [0] hz2 ot (by(exact hW1)) sm ?_;clear hz2;intro i2 s2 hi2 hW2 hz2;refine rS ?_;refine AWP.seq ?_;refine AWP.cond rfl (fun hb => ?_) (fun hb => ?_)
  ·have hlt2:i2<a0.length:=ot
   rw[yp hlt2]at hz2;simp only[ygm]at hz2;iterate 3 refine rS ?_
   refine AWP.cond rfl (fun hb => ?_) (fun hb => ?_)
   ·simp only[hb,cond_true]at hz2
    iterate 2 refine rS ?_
    exact⟨_,[0],hlt2,by(have h4:=hq4 i1;have h2:=hW2;simp only[ln]at *;omega),hz2,sm⟩
   ·simp only[hb,cond_false]at hz2
    refine rS ?_;exact⟨_,[0],hlt2,by(have h4:=hq4 i1;have h2:=hW2;simp only[ln]at *;omega),hz2,sm⟩
  ·obtain rfl:i2=a0.length:=ot
   rw[yn (Nat.le_refl _)]at hz2;subst hz2;dsimp only at hz1;refine AWP.exit ?_;refine yd ?_;exact⟨_,[0],hlt1,by(have h1:=hW1;omega),hz1,sm⟩
 ·obtain rfl:i1=[87,82,71,89].length:=by omega
  rw[yn (Nat.le_refl _)]at hz1;subst hz1;dsimp only at hR;simp only[Nat.lt_irrefl,decide_false];refine rS ?_;refine AWP.seq ?_;refine AWP.cond rfl (fun hb=>nomatch hb) (fun hb => ?_);refine AWP.exit ?_;refine yd ?_;refine rS ?_;refine AWP.ret ?_;subst hR;exact es
end N130
def D_zcc : DF
 | [x0]=>some (.str (zcc (rdL yx x0)),false,[wL 3 yq yx x0,(rdL yx x0).length<1099511627776,∀ v∈(rdL yx x0),bdSector v])
 | _=>none
theorem y2w:OkD Tryz.prog 130 D_zcc:=by unfold D_zcc;exact dk N130.den
def zte (a0:Int):Bool:=
 (zg a0 1 9)
namespace N155
theorem DD:DOk Tryz.prog (Go.Ab.DD [(101,dP D_zg)]):=ya yrc.e <| ye _
theorem dn:type_of% (@D_zg.eq_1):=by and_intros<;>intros<;>rfl
theorem ol:type_of% (@zg.eq_1):=@zg.eq_1
theorem den (a0:Int)  : Den Tryz.prog 155 [.int .i64 a0] (.bool (zte a0)):=by
 generalize hR:zte a0=r;unfold zte at hR;refine di Tryz.func155 Tryz.ntmps155 Tryz.results155 ?_;intro c hL hc hk;clear hL;simp only[pars,Nat.zero_add];iterate 2 refine rS ?_
 refine AWP.ret ?_;subst hR;exact es
end N155
def D_zte : DF
 | [x0]=>some (.bool (zte (rdI x0)),false,[wI .i64 x0])
 | _=>none
theorem ycq:OkD Tryz.prog 155 D_zte:=by unfold D_zte;exact dk N155.den
def zue (a0:Int) (a1:Int):Bool:=
 (decide (0<=a0) && decide (a0<a1))
namespace N260
theorem DD:DOk Tryz.prog (Go.Ab.DD []):=ye _
theorem den (a0:Int) (a1:Int)  : Den Tryz.prog 260 [.int .i64 a0,.int .i64 a1] (.bool (zue a0 a1)):=by
 generalize hR:zue a0 a1=r;unfold zue at hR;refine di Tryz.func260 Tryz.ntmps260 Tryz.results260 ?_;intro c hL hc hk;clear hL;simp only[pars,Nat.zero_add];iterate 2 refine rS ?_
 refine AWP.ret ?_;subst hR;exact es
end N260
def D_zue : DF
 | [x0,x1]=>some (.bool (zue (rdI x0) (rdI x1)),false,[wI .i64 x0,wI .i64 x1])
 | _=>none
theorem y9v:OkD Tryz.prog 260 D_zue:=by unfold D_zue;exact dk N260.den
def zbd (a0:Int) (a1:(List (List UInt8))):(List UInt8):=
 (bif (!(zue a0 (a1.length:Int)))then[]else(a1.getD ((a0).toNat) default))
namespace N216
theorem DD:DOk Tryz.prog (Go.Ab.DD [(260,dP D_zue)]):=ya y9v.e <| ye _
theorem dn:type_of% (@D_zue.eq_1):=by and_intros<;>intros<;>rfl
theorem ol:type_of% (@zue.eq_1):=@zue.eq_1
theorem den (a0:Int) (a1:(List (List UInt8)))  : Den Tryz.prog 216 [.int .i64 a0,encL 1 eS a1] (.str (zbd a0 a1)):=by
 generalize hR:zbd a0 a1=r;unfold zbd at hR;refine di Tryz.func216 Tryz.ntmps216 Tryz.results216 ?_;intro c hL hc hk;obtain⟨hL0,hL1,_⟩:=hL;have hw0:a1.length<9223372036854775808:=Nat.lt_succ_of_le (yb hL1).1;have hw1:∀ v∈a1,bwS v:=fun v hv=>ykp v ((yb hL1).2 v hv)
 clear hL0 hL1;simp only[pars,Nat.zero_add];iterate 2 refine rS ?_
 refine AWP.cond rfl (fun hb => ?_) (fun hb => ?_)
 ·replace hR:=ct hR
  refine rS ?_;refine AWP.ret ?_;subst hR;exact es
 ·replace hR:=cf hR
  refine rS ?_;refine AWP.ret ?_;subst hR;exact es
end N216
def D_zbd : DF
 | [x0,x1]=>some (.str (zbd (rdI x0) (rdL dS x1)),false,[wI .i64 x0,wL 1 eS dS x1])
 | _=>none
theorem ydl:OkD Tryz.prog 216 D_zbd:=by unfold D_zbd;exact dk N216.den
def zve (a0:Int):(List UInt8):=
 (zbd a0 ([[],[82],[71],[66,89],[66,89,66],[89,66],[89,66,89],[66,82,66],[82,87],[89]]:List (List UInt8)))
namespace N156
theorem DD:DOk Tryz.prog (Go.Ab.DD [(216,dP D_zbd)]):=ya ydl.e <| ye _
theorem dn:type_of% (@D_zbd.eq_1):=by and_intros<;>intros<;>rfl
theorem lx {p:Prop} (h:p:=by(exact lxx);first|done|fail):p:=h
theorem den (a0:Int)  : Den Tryz.prog 156 [.int .i64 a0] (.str (zve a0)):=by
 generalize hR:zve a0=r;unfold zve at hR;refine di Tryz.func156 Tryz.ntmps156 Tryz.results156 ?_;intro c hL hc hk;clear hL;simp only[pars,Nat.zero_add];iterate 2 refine rS ?_
 refine AWP.ret ?_;subst hR;exact es
end N156
def D_zve : DF
 | [x0]=>some (.str (zve (rdI x0)),false,[wI .i64 x0])
 | _=>none
theorem yiq:OkD Tryz.prog 156 D_zve:=by unfold D_zve;exact dk N156.den
theorem yrq {P:List UInt8->Prop} (n:Int) (l:List (List UInt8)) (h0:P []) (h:∀ y∈l,P y):P (zbd n l):=by
 unfold zbd
 cases hb:zue n (l.length:Int)with
 | false=>exact h0
 | true=>
  simp only[Bool.not_true,cond_false];rw[List.getD_eq_getElem?_getD];by_cases hi:n.toNat<l.length
  ·rw[List.getElem?_eq_getElem hi];exact h _ (List.getElem_mem hi)
  ·rw[List.getElem?_eq_none (by omega)];exact h0
end Go.Ab
