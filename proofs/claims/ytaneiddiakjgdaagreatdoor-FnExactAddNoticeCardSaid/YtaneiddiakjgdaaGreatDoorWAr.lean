/- A part of a proof: walks of functions and lemmas of our own. No conditions. -/
import Derived.Test.YtaneiddiakjgdaaGreatDoorWAl
import Derived.Test.YtaneiddiakjgdaaGreatDoorWAo
set_option linter.unusedSectionVars false
set_option linter.unusedVariables false
set_option linter.unusedSimpArgs false
set_option maxHeartbeats 1000000
namespace Go.Ab
open Go Go.Proofs
def zbb (a0:Int) (a1:Int):Bool:=
 decide (a0≤a1)
namespace N112
theorem DD:DOk Tryz.prog (Go.Ab.DD []):=ye _
theorem den (a0:Int) (a1:Int)  : Den Tryz.prog 112 [.int .i64 a0,.int .i64 a1] (.bool (zbb a0 a1)):=by
 generalize hR:zbb a0 a1=r
 unfold zbb at hR
 refine di Tryz.func112 Tryz.ntmps112 Tryz.results112 ?_
 intro c hL hc hk
 clear hL
 simp only[pars,Nat.zero_add]
 iterate 2 refine rS ?_
 refine AWP.ret ?_
 subst hR
 exact es
end N112
def D_zbb : DF
 | [x0,x1]=>some (.bool (zbb (rdI x0) (rdI x1)),false,[wI .i64 x0,wI .i64 x1])
 | _=>none
theorem yjh:OkD Tryz.prog 112 D_zbb:=by unfold D_zbb;exact dk N112.den
end Go.Ab

namespace Go.Ab
open Go Go.Proofs
def zog (a0:Int):Bool:=
 (decide (48≤a0) && decide (a0≤57))
namespace N195
theorem DD:DOk Tryz.prog (Go.Ab.DD []):=ye _
theorem den (a0:Int)  : Den Tryz.prog 195 [.int .u8 a0] (.bool (zog a0)):=by
 generalize hR:zog a0=r
 unfold zog at hR
 refine di Tryz.func195 Tryz.ntmps195 Tryz.results195 ?_
 intro c hL hc hk
 clear hL
 simp only[pars,Nat.zero_add]
 iterate 2 refine rS ?_
 refine AWP.ret ?_
 subst hR
 exact es
end N195
def D_zog : DF
 | [x0]=>some (.bool (zog (rdI x0)),false,[wI .u8 x0])
 | _=>none
theorem y9z:OkD Tryz.prog 195 D_zog:=by unfold D_zog;exact dk N195.den
end Go.Ab

namespace Go.Ab
open Go Go.Proofs
def y6r (a0:(List UInt8)) (i1:Nat) (s1:Unit):Except (Bool) (Unit):=
 (bif ((!(decide (97≤((a0.getD i1 0).toNat:Int)) && decide (((a0.getD i1 0).toNat:Int)≤122))) && (((i1:Int) == 0) || (!(zog ((a0.getD i1 0).toNat:Int)))))then .error false else .ok ())
def zzd (a0:(List UInt8)):Bool:=
 (match yh (y6r a0) (a0.length-0) 0 ()with|.error e=>e|.ok s1=>((a0 != []) && (zbb (a0.length:Int) 10)))
namespace N159
theorem DD:DOk Tryz.prog (Go.Ab.DD [(112,dP D_zbb),(195,dP D_zog)]):=ya yjh.e <| ya y9z.e <| ye _
theorem dn:type_of% (And.intro @D_zbb.eq_1 <| @D_zog.eq_1):=by and_intros<;>intros<;>rfl
theorem den (a0:(List UInt8))  : Den Tryz.prog 159 [.str a0] (.bool (zzd a0)):=by
 generalize hR:zzd a0=r
 unfold zzd at hR
 refine di Tryz.func159 Tryz.ntmps159 Tryz.results159 ?_
 intro c hL hc hk
 obtain⟨hL0,_⟩:=hL
 have hw0:a0.length<9223372036854775808:=Nat.lt_succ_of_le hL0
 clear hL0
 simp only[pars,Nat.zero_add]
 iterate 2 refine rS ?_
 refine AWP.block ?_
 generalize hz1:yh (y6r a0) (a0.length-0) 0 ()=z1 at hR
 refine AWP.range (y6r a0) (fun i1 s1=>⟨[(0,.str a0),(3,.int .i64 (i1:Int))],[]⟩) (fun i1 s1=>True) (a0.length) 0 () [] hz1 ot wt sm ?_
 clear hz1
 intro i1 s1 hi1 hW1 hz1
 refine rS ?_
 refine AWP.cond rfl (fun hb => ?_) (fun hb => ?_)
 ·have hlt1:i1<a0.length:=ot
  rw[yj hlt1]at hz1;simp only[y6r]at hz1
  iterate 2 refine rS ?_
  refine AWP.cond rfl (fun hb => ?_) (fun hb => ?_)
  ·simp only[hb,cond_true]at hz1
   refine rS ?_
   refine AWP.ret ?_
   subst hz1
   dsimp only at hR
   subst hR
   exact es
  ·simp only[hb,cond_false]at hz1
   refine rS ?_
   exact⟨_,[],hlt1,wt,hz1,sm⟩
 ·obtain rfl:i1=a0.length:=ot
  rw[yi (Nat.le_refl _)]at hz1;subst hz1;dsimp only at hR
  refine AWP.exit ?_;refine yd ?_
  refine rS ?_
  refine AWP.ret ?_
  subst hR
  exact es
end N159
def D_zzd : DF
 | [x0]=>some (.bool (zzd (rdS x0)),false,[wS x0])
 | _=>none
theorem ya1:OkD Tryz.prog 159 D_zzd:=by unfold D_zzd;exact dk N159.den
end Go.Ab

namespace Go.Ab
open Go Go.Proofs
def zb (a0:Int) (a1:Int) (a2:Int):Bool:=
 (decide (a1≤a0) && decide (a0≤a2))
namespace N139
theorem DD:DOk Tryz.prog (Go.Ab.DD []):=ye _
theorem den (a0:Int) (a1:Int) (a2:Int)  : Den Tryz.prog 139 [.int .i64 a0,.int .i64 a1,.int .i64 a2] (.bool (zb a0 a1 a2)):=by
 generalize hR:zb a0 a1 a2=r
 unfold zb at hR
 refine di Tryz.func139 Tryz.ntmps139 Tryz.results139 ?_
 intro c hL hc hk
 clear hL
 simp only[pars,Nat.zero_add]
 iterate 2 refine rS ?_
 refine AWP.ret ?_
 subst hR
 exact es
end N139
def D_zb : DF
 | [x0,x1,x2]=>some (.bool (zb (rdI x0) (rdI x1) (rdI x2)),false,[wI .i64 x0,wI .i64 x1,wI .i64 x2])
 | _=>none
theorem ygd:OkD Tryz.prog 139 D_zb:=by unfold D_zb;exact dk N139.den
end Go.Ab

namespace Go.Ab
open Go Go.Proofs
def yyp (a0:(List Int)) (i1:Nat) (s1:Int):Except (Bool) (Int):=
 (bif (!(zb (a0.getD i1 default) 1 9))then .error false else .ok (IntKind.wrap .i64 (s1+(a0.getD i1 default))))
def zbd (a0:(List Int)):Bool:=
 (match yh (yyp a0) (a0.length-0) 0 0 with|.error e=>e|.ok s1=>(((zbb (a0.length:Int) 4) && decide (s1≤12)) && (!(zbc a0 ([1]:List Int)))))
namespace N255
theorem DD:DOk Tryz.prog (Go.Ab.DD [(112,dP D_zbb),(139,dP D_zb),(256,dP D_zbc)]):=ya yjh.e <| ya ygd.e <| ya ymt.e <| ye _
theorem dn:type_of% (And.intro @D_zbb.eq_1 <| And.intro @D_zb.eq_1 <| @D_zbc.eq_1):=by and_intros<;>intros<;>rfl
theorem ol:type_of% (@zb.eq_1):=@zb.eq_1
theorem den (a0:(List Int))  : Den Tryz.prog 255 [encL 1 yp a0] (.bool (zbd a0)):=by
 generalize hR:zbd a0=r
 unfold zbd at hR
 refine di Tryz.func255 Tryz.ntmps255 Tryz.results255 ?_
 intro c hL hc hk
 obtain⟨hL0,_⟩:=hL
 have hw0:a0.length<9223372036854775808:=Nat.lt_succ_of_le (yb hL0).1
 clear hL0
 simp only[pars,Nat.zero_add]
 iterate 3 refine rS ?_
 refine AWP.block ?_
 generalize hz1:yh (yyp a0) (a0.length-0) 0 0=z1 at hR
 refine AWP.range (yyp a0) (fun i1 s1=>⟨[(0,encL 1 yp a0),(3,.int .i64 s1),(6,encL 1 yp a0),(7,.int .i64 (a0.length:Int)),(8,.int .i64 (i1:Int))],[]⟩) (fun i1 s1=>True) (a0.length) 0 0 [] hz1 ot wt sm ?_
 clear hz1
 intro i1 s1 hi1 hW1 hz1
 refine rS ?_
 refine AWP.seq ?_
 refine AWP.cond rfl (fun hb => ?_) (fun hb => ?_)
 ·have hlt1:i1<a0.length:=ot
  rw[yj hlt1]at hz1;simp only[yyp]at hz1
  iterate 2 refine rS ?_
  refine AWP.cond rfl (fun hb => ?_) (fun hb => ?_)
  ·simp only[hb,cond_true]at hz1
   refine rS ?_
   refine AWP.ret ?_
   subst hz1
   dsimp only at hR
   subst hR
   exact es
  ·simp only[hb,cond_false]at hz1
   iterate 2 refine rS ?_
   exact⟨_,[],hlt1,wt,hz1,sm⟩
 ·obtain rfl:i1=a0.length:=ot
  rw[yi (Nat.le_refl _)]at hz1;subst hz1;dsimp only at hR
  refine AWP.exit ?_;refine yd ?_
  refine rS ?_
  refine AWP.ret ?_
  subst hR
  exact es
end N255
def D_zbd : DF
 | [x0]=>some (.bool (zbd (rdL ylb x0)),false,[wL 1 yp ylb x0])
 | _=>none
theorem y10:OkD Tryz.prog 255 D_zbd:=by unfold D_zbd;exact dk N255.den
end Go.Ab

namespace Go.Ab
open Go Go.Proofs
def y7k (a0:(List UInt8)) (i1:Nat) (s1:Int):Except (Bool) (Int):=
 (bif decide ((zme [87,82,71,89] ((a0.getD i1 0).toNat:Int))≤s1)then .error false else .ok (zme [87,82,71,89] ((a0.getD i1 0).toNat:Int)))
def zuc (a0:(List UInt8)):Bool:=
 (match yh (y7k a0) (a0.length-0) 0 (-1)with|.error e=>e|.ok s1=>(zb (a0.length:Int) 1 3))
namespace N235
theorem DD:DOk Tryz.prog (Go.Ab.DD [(139,dP D_zb),(254,dP D_zme)]):=ya ygd.e <| ya ypz.e <| ye _
theorem dn:type_of% (And.intro @D_zb.eq_1 <| @D_zme.eq_1):=by and_intros<;>intros<;>rfl
theorem ol:type_of% (@zb.eq_1):=@zb.eq_1
theorem den (a0:(List UInt8))  : Den Tryz.prog 235 [.str a0] (.bool (zuc a0)):=by
 generalize hR:zuc a0=r
 unfold zuc at hR
 refine di Tryz.func235 Tryz.ntmps235 Tryz.results235 ?_
 intro c hL hc hk
 obtain⟨hL0,_⟩:=hL
 have hw0:a0.length<9223372036854775808:=Nat.lt_succ_of_le hL0
 clear hL0
 simp only[pars,Nat.zero_add]
 iterate 3 refine rS ?_
 refine AWP.block ?_
 generalize hz1:yh (y7k a0) (a0.length-0) 0 (-1)=z1 at hR
 refine AWP.range (y7k a0) (fun i1 s1=>⟨[(0,.str a0),(3,.int .i64 s1),(4,.int .i64 (i1:Int))],[]⟩) (fun i1 s1=>True) (a0.length) 0 (-1) [] hz1 ot wt sm ?_
 clear hz1
 intro i1 s1 hi1 hW1 hz1
 refine rS ?_
 refine AWP.cond rfl (fun hb => ?_) (fun hb => ?_)
 ·have hlt1:i1<a0.length:=ot
  rw[yj hlt1]at hz1;simp only[y7k]at hz1
  iterate 2 refine rS ?_
  refine AWP.cond rfl (fun hb => ?_) (fun hb => ?_)
  ·simp only[hb,cond_true]at hz1
   refine rS ?_
   refine AWP.ret ?_
   subst hz1
   dsimp only at hR
   subst hR
   exact es
  ·simp only[hb,cond_false]at hz1
   iterate 2 refine rS ?_
   exact⟨_,[],hlt1,wt,hz1,sm⟩
 ·obtain rfl:i1=a0.length:=ot
  rw[yi (Nat.le_refl _)]at hz1;subst hz1;dsimp only at hR
  refine AWP.exit ?_;refine yd ?_
  refine rS ?_
  refine AWP.ret ?_
  subst hR
  exact es
end N235
def D_zuc : DF
 | [x0]=>some (.bool (zuc (rdS x0)),false,[wS x0])
 | _=>none
theorem y7z:OkD Tryz.prog 235 D_zuc:=by unfold D_zuc;exact dk N235.den
end Go.Ab

namespace Go.Ab
open Go Go.Proofs
def zib (a0:(List UInt8)):(List UInt8):=
 (bif ((((a0.length:Int) != 1) || Op.bytesLess a0 [65]) || !(Op.bytesLess a0 [90] || a0 == [90]))then[]else([[46,45],[45,46,46,46],[45,46,45,46],[45,46,46],[46],[46,46,45,46],[45,45,46],[46,46,46,46],[46,46],[46,45,45,45],[45,46,45],[46,45,46,46],[45,45],[45,46],[45,45,45],[46,45,45,46],[45,45,46,45],[46,45,46],[46,46,46],[45],[46,46,45],[46,46,46,45],[46,45,45],[45,46,46,45],[45,46,45,45],[45,45,46,46]]:List (List UInt8)).getD ((IntKind.wrap .u8 (((a0.getD 0 0).toNat:Int)-65)).toNat) [])
namespace N257
theorem DD:DOk Tryz.prog (Go.Ab.DD []):=ye _
theorem o0 {p:Prop} (h:p:=by(first|(simp only[Bool.or_eq_false_iff,Bool.not_eq_false',Bool.or_eq_true,bne_eq_false_iff_eq]at hb;have h9:=yi1 a0 hb;have h8:=hb.1.1;and_intros<;>omega));first|done|fail):p:=h
theorem den (a0:(List UInt8))  : Den Tryz.prog 257 [.str a0] (.str (zib a0)):=by
 generalize hR:zib a0=r
 unfold zib at hR
 refine di Tryz.func257 Tryz.ntmps257 Tryz.results257 ?_
 intro c hL hc hk
 obtain⟨hL0,_⟩:=hL
 have hw0:a0.length<9223372036854775808:=Nat.lt_succ_of_le hL0
 clear hL0
 simp only[pars,Nat.zero_add]
 iterate 2 refine rS ?_
 refine AWP.cond rfl (fun hb => ?_) (fun hb => ?_)
 ·replace hR:=ct hR
  refine rS ?_
  refine AWP.ret ?_
  subst hR
  exact es
 ·replace hR:=cf hR
  refine rS ?_
  refine AWP.ret ?_
  subst hR
  exact es
end N257
def D_zib : DF
 | [x0]=>some (.str (zib (rdS x0)),false,[wS x0])
 | _=>none
theorem yks:OkD Tryz.prog 257 D_zib:=by unfold D_zib;exact dk N257.den
end Go.Ab

namespace Go.Ab
open Go Go.Proofs
def zqc (a0:Character):Bool:=
 (bif (a0.Kind == 1)then(((a0.Group.length:Int) == 0) && (a0.Letter == []))else(bif (a0.Kind == 3)then(((a0.Group.length:Int) == 0) && (a0.Letter == []))else(bif (a0.Kind == 2)then((a0.Letter == []) && (zbd a0.Group))else(bif (a0.Kind == 4)then((a0.Letter == []) && (zbd a0.Group))else(bif (a0.Kind == 5)then((a0.Letter == []) && (zbd a0.Group))else(bif (a0.Kind == 6)then(bif (a0.Letter == [])then(((a0.Group.length:Int) == 0) || (((a0.Group.length:Int) == 1) && (zb (a0.Group.getD 0 default) 2 9)))else((a0.Letter == [76]) && (zbc a0.Group ([6]:List Int))))else(bif (a0.Kind == 7)then(bif (a0.Letter == [])then(((a0.Group.length:Int) == 0) || (((a0.Group.length:Int) == 1) && (zb (a0.Group.getD 0 default) 2 9)))else((a0.Letter == [76]) && (zbc a0.Group ([6]:List Int))))else(bif (a0.Kind == 8)then(((zib a0.Letter) != []) && ((a0.Group.length:Int) == 0))else false))))))))
namespace N236
theorem DD:DOk Tryz.prog (Go.Ab.DD [(139,dP D_zb),(255,dP D_zbd),(256,dP D_zbc),(257,dP D_zib)]):=ya ygd.e <| ya y10.e <| ya ymt.e <| ya yks.e <| ye _
theorem dn:type_of% (And.intro @D_zb.eq_1 <| And.intro @D_zbd.eq_1 <| And.intro @D_zbc.eq_1 <| @D_zib.eq_1):=by and_intros<;>intros<;>rfl
theorem ol:type_of% (@zb.eq_1):=@zb.eq_1
theorem den (a0:Character)  : Den Tryz.prog 236 [.agg (eCharacter a0)] (.bool (zqc a0)):=by
 generalize hR:zqc a0=r
 unfold zqc at hR
 refine di Tryz.func236 Tryz.ntmps236 Tryz.results236 ?_
 intro c hL hc hk
 obtain⟨hL0,_⟩:=hL
 have hw0:bwCharacter a0:=yq a0 hL0
 clear hL0
 simp only[pars,Nat.zero_add]
 iterate 3 refine rS ?_
 refine AWP.cond rfl (fun hb => ?_) (fun hb => ?_)
 ·replace hR:=ct hR
  refine AWP.skip ?_
  refine AWP.cond rfl (fun hb => ?_) (fun hb => ?_)
  ·refine rS ?_
   refine AWP.ret ?_
   subst hR
   exact es
  ·exfalso;simp_all
 ·replace hR:=cf hR
  refine rS ?_
  refine AWP.cond rfl (fun hb => ?_) (fun hb => ?_)
  ·replace hR:=ct hR
   refine rS ?_
   refine AWP.ret ?_
   subst hR
   exact es
  ·replace hR:=cf hR
   refine rS ?_
   refine AWP.cond rfl (fun hb => ?_) (fun hb => ?_)
   ·replace hR:=ct hR
    refine AWP.skip ?_
    refine AWP.cond rfl (fun hb => ?_) (fun hb => ?_)
    ·refine rS ?_
     refine AWP.ret ?_
     subst hR
     exact es
    ·exfalso;simp_all
   ·replace hR:=cf hR
    refine rS ?_
    refine AWP.cond rfl (fun hb => ?_) (fun hb => ?_)
    ·replace hR:=ct hR
     refine AWP.skip ?_
     refine AWP.cond rfl (fun hb => ?_) (fun hb => ?_)
     ·refine rS ?_
      refine AWP.ret ?_
      subst hR
      exact es
     ·exfalso;simp_all
    ·replace hR:=cf hR
     refine rS ?_
     refine AWP.cond rfl (fun hb => ?_) (fun hb => ?_)
     ·replace hR:=ct hR
      refine rS ?_
      refine AWP.ret ?_
      subst hR
      exact es
     ·replace hR:=cf hR
      refine rS ?_
      refine AWP.cond rfl (fun hb => ?_) (fun hb => ?_)
      ·replace hR:=ct hR
       refine AWP.skip ?_
       refine AWP.cond rfl (fun hb => ?_) (fun hb => ?_)
       ·refine rS ?_
        refine AWP.cond rfl (fun hb => ?_) (fun hb => ?_)
        ·replace hR:=ct hR
         refine rS ?_
         refine AWP.ret ?_
         subst hR
         exact es
        ·replace hR:=cf hR
         refine rS ?_
         refine AWP.ret ?_
         subst hR
         exact es
       ·exfalso;simp_all
      ·replace hR:=cf hR
       refine rS ?_
       refine AWP.cond rfl (fun hb => ?_) (fun hb => ?_)
       ·replace hR:=ct hR
        refine rS ?_
        refine AWP.cond rfl (fun hb => ?_) (fun hb => ?_)
        ·replace hR:=ct hR
         refine rS ?_
         refine AWP.ret ?_
         subst hR
         exact es
        ·replace hR:=cf hR
         refine rS ?_
         refine AWP.ret ?_
         subst hR
         exact es
       ·replace hR:=cf hR
        refine rS ?_
        refine AWP.cond rfl (fun hb => ?_) (fun hb => ?_)
        ·replace hR:=ct hR
         refine rS ?_
         refine AWP.ret ?_
         subst hR
         exact es
        ·replace hR:=cf hR
         refine rS ?_
         refine AWP.ret ?_
         subst hR
         exact es
end N236
def D_zqc : DF
 | [x0]=>some (.bool (zqc (rdG yf x0)),false,[wG eCharacter yf x0])
 | _=>none
theorem y6y:OkD Tryz.prog 236 D_zqc:=by unfold D_zqc;exact dk N236.den
end Go.Ab

namespace Go.Ab
open Go Go.Proofs
theorem y6i (a:List UInt8):zib a=if a.length=1∧65≤(a.getD 0 0).toNat∧(a.getD 0 0).toNat≤90 then ynd.getD ((a.getD 0 0).toNat-65) []else[]:=by
 unfold zib
 by_cases h1:a.length=1
 ·have c1:((a.length:Int) != 1)=false:=by rw[h1];rfl
  rw[c1,yih a 65 h1,yih a 90 h1,y3v a 90 h1]
  have e1:(65:UInt8).toNat=65:=rfl
  have e2:(90:UInt8).toNat=90:=rfl
  rw[e1,e2]
  by_cases h2:65≤(a.getD 0 0).toNat∧(a.getD 0 0).toNat≤90
  ·rw[if_pos ⟨h1,h2⟩,decide_eq_false (by omega)]
   have c2:(decide ((a.getD 0 0).toNat<90) || decide ((a.getD 0 0).toNat=90))=true:=by
    rw[Bool.or_eq_true,decide_eq_true_eq,decide_eq_true_eq];omega
   rw[c2]
   simp only[Bool.or_self,Bool.not_true,cond_false]
   rw[ylj _ (by omega) (by omega),show((((a.getD 0 0).toNat:Int)-65).toNat)=(a.getD 0 0).toNat-65 by omega]
   rfl
  ·rw[if_neg (fun h=>h2 h.2)]
   by_cases h3:(a.getD 0 0).toNat<65
   ·rw[decide_eq_true h3];rfl
   ·have c2:(decide ((a.getD 0 0).toNat<90) || decide ((a.getD 0 0).toNat=90))=false:=by
     rw[decide_eq_false (by omega),decide_eq_false (by omega)];rfl
    rw[c2,decide_eq_false h3];rfl
 ·have c1:((a.length:Int) != 1)=true:=by rw[bne_iff_ne];omega
  rw[c1,if_neg (fun h=>h1 h.1)]
  rfl
theorem ytv (a:List UInt8):(zib a).length≤4:=by
 rw[y6i]
 split
 ·exact ytj _
 ·simp
theorem ylr (a:List UInt8):∀ x∈zib a,x.toNat<128:=by
 intro x hx
 rw[y6i]at hx
 split at hx
 ·rw[List.getD_eq_getElem?_getD]at hx
  cases h:ynd[(a.getD 0 0).toNat-65]? with
  | none=>rw[h]at hx;simp at hx
  | some y=>
   rw[h]at hx
   rcases(ysh y (List.mem_of_getElem? h)).2.2 x hx with e|e<;>subst e<;>decide
 ·simp at hx
end Go.Ab

namespace Go.Ab
open Go Go.Proofs
def zeh (a0:Int):Bool:=
 ((a0 == 6) || (a0 == 7))
namespace N258
theorem DD:DOk Tryz.prog (Go.Ab.DD []):=ye _
theorem den (a0:Int)  : Den Tryz.prog 258 [.int .i64 a0] (.bool (zeh a0)):=by
 generalize hR:zeh a0=r
 unfold zeh at hR
 refine di Tryz.func258 Tryz.ntmps258 Tryz.results258 ?_
 intro c hL hc hk
 clear hL
 simp only[pars,Nat.zero_add]
 iterate 2 refine rS ?_
 refine AWP.ret ?_
 subst hR
 exact es
end N258
def D_zeh : DF
 | [x0]=>some (.bool (zeh (rdI x0)),false,[wI .i64 x0])
 | _=>none
theorem yqy:OkD Tryz.prog 258 D_zeh:=by unfold D_zeh;exact dk N258.den
end Go.Ab

namespace Go.Ab
open Go Go.Proofs
def zae (a0:Character):Bool:=
 ((a0.Kind == 1) || ((zeh a0.Kind) && ((a0.Group.length:Int) == 0)))
namespace N237
theorem DD:DOk Tryz.prog (Go.Ab.DD [(258,dP D_zeh)]):=ya yqy.e <| ye _
theorem dn:type_of% (@D_zeh.eq_1):=by and_intros<;>intros<;>rfl
theorem den (a0:Character)  : Den Tryz.prog 237 [.agg (eCharacter a0)] (.bool (zae a0)):=by
 generalize hR:zae a0=r
 unfold zae at hR
 refine di Tryz.func237 Tryz.ntmps237 Tryz.results237 ?_
 intro c hL hc hk
 obtain⟨hL0,_⟩:=hL
 have hw0:bwCharacter a0:=yq a0 hL0
 clear hL0
 simp only[pars,Nat.zero_add]
 iterate 2 refine rS ?_
 refine AWP.ret ?_
 subst hR
 exact es
end N237
def D_zae : DF
 | [x0]=>some (.bool (zae (rdG yf x0)),false,[wG eCharacter yf x0])
 | _=>none
theorem yjt:OkD Tryz.prog 237 D_zae:=by unfold D_zae;exact dk N237.den
end Go.Ab

namespace Go.Ab
open Go Go.Proofs
def zj (a0:Int):(Int×Int×Int):=
 (bif (a0 == 2)then(10,10,15)else(bif (a0 == 4)then(5,15,20)else(bif (a0 == 5)then(20,20,25)else(bif (a0 == 6)then(5,5,20)else(bif (a0 == 7)then(2,3,10)else(bif (a0 == 8)then(5,5,30)else(0,0,0)))))))
namespace N259
theorem DD:DOk Tryz.prog (Go.Ab.DD []):=ye _
theorem den (a0:Int)  : Den Tryz.prog 259 [.int .i64 a0] (.tup [.int .i64 ((zj a0).1),.int .i64 ((zj a0).2.1),.int .i64 ((zj a0).2.2)]):=by
 generalize hR:zj a0=r
 unfold zj at hR
 refine di Tryz.func259 Tryz.ntmps259 Tryz.results259 ?_
 intro c hL hc hk
 clear hL
 simp only[pars,Nat.zero_add]
 iterate 3 refine rS ?_
 refine AWP.cond rfl (fun hb => ?_) (fun hb => ?_)
 ·replace hR:=ct hR
  refine rS ?_
  refine AWP.ret ?_
  subst hR
  exact es
 ·replace hR:=cf hR
  refine rS ?_
  refine AWP.cond rfl (fun hb => ?_) (fun hb => ?_)
  ·replace hR:=ct hR
   refine rS ?_
   refine AWP.ret ?_
   subst hR
   exact es
  ·replace hR:=cf hR
   refine rS ?_
   refine AWP.cond rfl (fun hb => ?_) (fun hb => ?_)
   ·replace hR:=ct hR
    refine rS ?_
    refine AWP.ret ?_
    subst hR
    exact es
   ·replace hR:=cf hR
    refine rS ?_
    refine AWP.cond rfl (fun hb => ?_) (fun hb => ?_)
    ·replace hR:=ct hR
     refine rS ?_
     refine AWP.ret ?_
     subst hR
     exact es
    ·replace hR:=cf hR
     refine rS ?_
     refine AWP.cond rfl (fun hb => ?_) (fun hb => ?_)
     ·replace hR:=ct hR
      refine rS ?_
      refine AWP.ret ?_
      subst hR
      exact es
     ·replace hR:=cf hR
      refine rS ?_
      refine AWP.cond rfl (fun hb => ?_) (fun hb => ?_)
      ·replace hR:=ct hR
       refine rS ?_
       refine AWP.ret ?_
       subst hR
       exact es
      ·replace hR:=cf hR
       refine rS ?_
       refine AWP.ret ?_
       subst hR
       exact es
end N259
def D_zj : DF
 | [x0]=>some (.tup [.int .i64 ((zj (rdI x0)).1),.int .i64 ((zj (rdI x0)).2.1),.int .i64 ((zj (rdI x0)).2.2)],false,[wI .i64 x0])
 | _=>none
theorem y1v:OkD Tryz.prog 259 D_zj:=by unfold D_zj;exact dk N259.den
end Go.Ab

namespace Go.Ab
open Go Go.Proofs
def y4r (a0:(List Int)) (i1:Nat) (s1:Int):Except (Int) (Int):=
 .ok (IntKind.wrap .i64 (s1+(a0.getD i1 default)))
def zje (a0:(List Int)):Int:=
 (match yh (y4r a0) (a0.length-0) 0 0 with|.error e=>e|.ok s1=>s1)
namespace N260
theorem DD:DOk Tryz.prog (Go.Ab.DD []):=ye _
theorem den (a0:(List Int))  : Den Tryz.prog 260 [encL 1 yp a0] (.int .i64 (zje a0)):=by
 generalize hR:zje a0=r
 unfold zje at hR
 refine di Tryz.func260 Tryz.ntmps260 Tryz.results260 ?_
 intro c hL hc hk
 obtain⟨hL0,_⟩:=hL
 have hw0:a0.length<9223372036854775808:=Nat.lt_succ_of_le (yb hL0).1
 clear hL0
 simp only[pars,Nat.zero_add]
 iterate 3 refine rS ?_
 refine AWP.block ?_
 generalize hz1:yh (y4r a0) (a0.length-0) 0 0=z1 at hR
 refine AWP.range (y4r a0) (fun i1 s1=>⟨[(3,.int .i64 s1),(6,encL 1 yp a0),(7,.int .i64 (a0.length:Int)),(8,.int .i64 (i1:Int))],[]⟩) (fun i1 s1=>True) (a0.length) 0 0 [] hz1 ot wt sm ?_
 clear hz1
 intro i1 s1 hi1 hW1 hz1
 refine rS ?_
 refine AWP.seq ?_
 refine AWP.cond rfl (fun hb => ?_) (fun hb => ?_)
 ·have hlt1:i1<a0.length:=ot
  rw[yj hlt1]at hz1;simp only[y4r]at hz1
  iterate 3 refine rS ?_
  exact⟨_,[],hlt1,wt,hz1,sm⟩
 ·obtain rfl:i1=a0.length:=ot
  rw[yi (Nat.le_refl _)]at hz1;subst hz1;dsimp only at hR
  refine AWP.exit ?_;refine yd ?_
  refine rS ?_
  refine AWP.ret ?_
  subst hR
  exact es
end N260
def D_zje : DF
 | [x0]=>some (.int .i64 (zje (rdL ylb x0)),false,[wL 1 yp ylb x0])
 | _=>none
theorem ybz:OkD Tryz.prog 260 D_zje:=by unfold D_zje;exact dk N260.den
end Go.Ab

namespace Go.Ab
open Go Go.Proofs
def ybu (a0:Character) (i1:Nat) (s1:List Int):Except ((List Int)) (List Int):=
 (bif decide (0<(i1:Int))then(bif ((((zib a0.Letter).getD i1 0).toNat:Int) == 45)then .ok ((s1++([(zj a0.Kind).2.1]:List Int))++([IntKind.wrap .i64 (3 * ((zj a0.Kind).1))]:List Int))else .ok ((s1++([(zj a0.Kind).2.1]:List Int))++([(zj a0.Kind).1]:List Int)))else(bif ((((zib a0.Letter).getD i1 0).toNat:Int) == 45)then .ok (s1++([IntKind.wrap .i64 (3 * ((zj a0.Kind).1))]:List Int))else .ok (s1++([(zj a0.Kind).1]:List Int))))
def yru (a0:Character) (i2:Nat) (s2:List Int) (i3:Nat) (s3:List Int):Except ((List Int)) (List Int):=
 (bif decide (0<(i3:Int))then .ok ((s3++([(zj a0.Kind).2.1]:List Int))++([(zj a0.Kind).1]:List Int))else(bif decide (0<(i2:Int))then .ok ((s3++([IntKind.wrap .i64 (((zj a0.Kind).2.1)+20)]:List Int))++([(zj a0.Kind).1]:List Int))else .ok (s3++([(zj a0.Kind).1]:List Int))))
def ylu (a0:Character) (i2:Nat) (s2:List Int):Except ((List Int)) (List Int):=
 (match yh (yru a0 i2 s2) (((([1]:List Int).getD i2 default)).toNat-0) 0 s2 with|.error e=>.error e|.ok s3=>.ok s3)
def y0t (a0:Character) (i4:Nat) (s4:List Int) (i5:Nat) (s5:List Int):Except ((List Int)) (List Int):=
 (bif decide (0<(i5:Int))then .ok ((s5++([(zj a0.Kind).2.1]:List Int))++([(zj a0.Kind).1]:List Int))else(bif decide (0<(i4:Int))then .ok ((s5++([IntKind.wrap .i64 (((zj a0.Kind).2.1)+20)]:List Int))++([(zj a0.Kind).1]:List Int))else .ok (s5++([(zj a0.Kind).1]:List Int))))
def y4t (a0:Character) (i4:Nat) (s4:List Int):Except ((List Int)) (List Int):=
 (match yh (y0t a0 i4 s4) (((a0.Group.getD i4 default)).toNat-0) 0 s4 with|.error e=>.error e|.ok s5=>.ok s5)
def zi (a0:Character):(List Int):=
 (bif (a0.Kind == 8)then(match yh (ybu a0) ((zib a0.Letter).length-0) 0 ([]:List Int)with|.error e=>e|.ok s1=>s1)else(bif ((a0.Group.length:Int) == 0)then(match yh (ylu a0) (1-0) 0 ([]:List Int)with|.error e=>e|.ok s2=>(bif (a0.Letter != [])then s2++([(zj a0.Kind).2.1,20]:List Int)else s2))else(match yh (y4t a0) (a0.Group.length-0) 0 ([]:List Int)with|.error e=>e|.ok s4=>(bif (a0.Letter != [])then s4++([(zj a0.Kind).2.1,20]:List Int)else s4))))
namespace N261
theorem DD:DOk Tryz.prog (Go.Ab.DD [(257,dP D_zib),(259,dP D_zj)]):=ya yks.e <| ya y1v.e <| ye _
theorem dn:type_of% (And.intro @D_zib.eq_1 <| @D_zj.eq_1):=by and_intros<;>intros<;>rfl
theorem o2 {p:Prop} (h:p:=by(first|(and_intros<;>first|decide|omega|(simp;(first|done|fail))|(rw[IntKind.wrap_i64];have:=hg9 i4;omega)|(rw[IntKind.wrap_i64];have:=hg1 i2;omega)|(rw[IntKind.wrap_i64];omega)|(intro i hi;exact ysm _ _ i hi)|(intro i hi;exact ydo _ _ _ i hi)));first|done|fail):p:=h
theorem o3 {p:Prop} (h:p:=by(first|(refine⟨⟨Nat.le_refl _,fun i hi=>yuo _ _ _ i hi⟩,.inl fun i hi=>by rw[yui _ _ _ i hi];simp[NoBorL,NoBor],by simp,fun i hi=>by rw[yui _ _ _ i hi];exact yjb _⟩));first|done|fail):p:=h
theorem lx {p:Prop} (h:p:=by(exact lxx);first|done|fail):p:=h
set_option maxHeartbeats 1000000 in
set_option maxRecDepth 20000 in
theorem den (a0:Character) (hb0:bdCharacter a0) (hp0:a0.Group.length≤4) (hp1:∀ v∈a0.Group,v≤9):Den Tryz.prog 261 [.agg (eCharacter a0)] (ownL 2 1 yp (zi a0)):=by
 generalize hR:zi a0=r
 unfold zi at hR
 refine di Tryz.func261 Tryz.ntmps261 Tryz.results261 ?_
 intro c hL hc hk
 obtain⟨hL0,_⟩:=hL
 have hw0:bwCharacter a0:=yq a0 hL0
 clear hL0
 simp only[pars,Nat.zero_add]
 have hg9:∀ i:Nat,a0.Group.getD i default≤9:=fun i=>y5m hp1 i
 have hs9:=ytv a0.Letter
 have hs8:=ylr a0.Letter
 have hg1:∀ i:Nat,([1]:List Int).getD i default≤9:=fun i=>y5m (by simp) i
 iterate 3 refine rS ?_
 refine AWP.cond rfl (fun hb => ?_) (fun hb => ?_)
 ·replace hR:=ct hR
  iterate 2 refine rS ?_
  refine AWP.block ?_
  refine AWP.lensT 27 rfl (fun hLn1 => ?_)
  generalize hz1:yh (ybu a0) ((zib a0.Letter).length-0) 0 ([]:List Int)=z1 at hR
  refine AWP.range (ybu a0) (fun i1 s1=>⟨[(3,.int .i64 ((zj a0.Kind).1)),(4,.int .i64 ((zj a0.Kind).2.1)),(6,.ref 0 1 0 s1.length),(28,.ptr 1 0)],[.arr 2 1 s1.length (fun j=>yp (s1.getD j default)),.it (zib a0.Letter) i1 (decide (i1<(zib a0.Letter).length))]⟩) (fun i1 s1=>s1.length≤([]:List Int).length+2 * i1∧s1.length≤2 * i1) ((zib a0.Letter).length) 0 ([]:List Int) [1,2] hz1 ot wt sm ?_
  clear hz1
  intro i1 s1 hi1 hW1 hz1
  refine AWP.seq ?_
  by_cases hlt1:i1<(zib a0.Letter).length
  ·rw[yj hlt1]at hz1;simp only[ybu]at hz1
   rw[decide_eq_true hlt1]
   refine rS ?_
   refine AWP.seq ?_
   refine AWP.cond rfl (fun hb => ?_) (fun hb=>nomatch hb)
   iterate 2 refine rS ?_
   refine AWP.cond rfl (fun hb => ?_) (fun hb => ?_)
   ·simp only[hb,cond_true]at hz1
    iterate 2 refine rS ?_
    refine AWP.cond rfl (fun hb => ?_) (fun hb => ?_)
    ·simp only[hb,cond_true]at hz1
     refine rS ?_
     exact⟨_,[5,1],hlt1,wt,hz1,sm⟩
    ·simp only[hb,cond_false]at hz1
     refine rS ?_
     exact⟨_,[5,1],hlt1,wt,hz1,sm⟩
   ·simp only[hb,cond_false]at hz1
    refine rS ?_
    refine AWP.cond rfl (fun hb => ?_) (fun hb => ?_)
    ·simp only[hb,cond_true]at hz1
     refine rS ?_
     exact⟨_,[3,1],hlt1,wt,hz1,sm⟩
    ·simp only[hb,cond_false]at hz1
     refine rS ?_
     exact⟨_,[3,1],hlt1,wt,hz1,sm⟩
  ·obtain rfl:i1=(zib a0.Letter).length:=by omega
   rw[yi (Nat.le_refl _)]at hz1;subst hz1;dsimp only at hR
   simp only[Nat.lt_irrefl,decide_false]
   refine rS ?_
   refine AWP.seq ?_
   refine AWP.cond rfl (fun hb=>nomatch hb) (fun hb => ?_)
   refine AWP.exit ?_;refine yd ?_
   refine rS ?_
   refine AWP.ret ?_
   subst hR
   exact es
 ·replace hR:=cf hR
  iterate 2 refine rS ?_
  refine AWP.cond rfl (fun hb => ?_) (fun hb => ?_)
  ·replace hR:=ct hR
   iterate 3 refine rS ?_
   refine AWP.block ?_
   generalize hz2:yh (ylu a0) (1-0) 0 ([]:List Int)=z2 at hR
   refine AWP.range (ylu a0) (fun i2 s2=>⟨[(1,.ptr 0 0),(3,.int .i64 ((zj a0.Kind).1)),(4,.int .i64 ((zj a0.Kind).2.1)),(10,.ref 1 1 0 s2.length),(58,.ref 2 1 0 1),(59,.int .i64 1),(60,.int .i64 (i2:Int))],[.box [.int .i64 a0.Kind,encL 1 yp a0.Group,.str a0.Letter,.str a0.Colors,.int .i64 a0.Period],.arr 2 1 s2.length (fun j=>yp (s2.getD j default)),.arr 2 1 ([1]:List Int).length (fun j=>yp (([1]:List Int).getD j default))]⟩) (fun i2 s2=>s2.length≤18 * i2) (1) 0 ([]:List Int) [0,2,1] hz2 ot wt sm ?_
   clear hz2
   intro i2 s2 hi2 hW2 hz2
   refine rS ?_
   refine AWP.seq ?_
   refine AWP.cond rfl (fun hb => ?_) (fun hb => ?_)
   ·have hlt2:i2<1:=ot
    rw[yj hlt2]at hz2;simp only[ylu]at hz2
    iterate 2 refine rS ?_
    refine AWP.block ?_
    generalize hz3:yh (yru a0 i2 s2) (((([1]:List Int).getD i2 default)).toNat-0) 0 s2=z3 at hz2
    refine AWP.range (yru a0 i2 s2) (fun i3 s3=>⟨[(1,.ptr 0 0),(3,.int .i64 ((zj a0.Kind).1)),(4,.int .i64 ((zj a0.Kind).2.1)),(10,.ref 1 1 0 s3.length),(11,.int .i64 (i2:Int)),(58,.ref 2 1 0 1),(59,.int .i64 1),(60,.int .i64 (i2:Int)),(65,.int .i64 (([1]:List Int).getD i2 default)),(66,.int .i64 (i3:Int))],[.box [.int .i64 a0.Kind,encL 1 yp a0.Group,.str a0.Letter,.str a0.Colors,.int .i64 a0.Period],.arr 2 1 s3.length (fun j=>yp (s3.getD j default)),.arr 2 1 ([1]:List Int).length (fun j=>yp (([1]:List Int).getD j default))]⟩) (fun i3 s3=>s3.length≤s2.length+2 * i3∧s3.length≤18 * i2+2 * i3) (((([1]:List Int).getD i2 default)).toNat) 0 s2 [0,1,2] hz3 ot wt sm ?_
    clear hz3
    intro i3 s3 hi3 hW3 hz3
    refine rS ?_
    refine AWP.seq ?_
    refine AWP.cond rfl (fun hb => ?_) (fun hb => ?_)
    ·have hlt3:i3<((([1]:List Int).getD i2 default)).toNat:=ot
     rw[yj hlt3]at hz3;simp only[yru]at hz3
     iterate 2 refine rS ?_
     refine AWP.cond rfl (fun hb => ?_) (fun hb => ?_)
     ·simp only[hb,cond_true]at hz3
      iterate 3 refine rS ?_
      exact⟨_,[0,6,2],hlt3,wt,hz3,sm⟩
     ·simp only[hb,cond_false]at hz3
      refine rS ?_
      refine AWP.cond rfl (fun hb => ?_) (fun hb => ?_)
      ·simp only[hb,cond_true]at hz3
       iterate 3 refine rS ?_
       exact⟨_,[0,6,2],hlt3,wt,hz3,sm⟩
      ·simp only[hb,cond_false]at hz3
       iterate 2 refine rS ?_
       exact⟨_,[0,4,2],hlt3,wt,hz3,sm⟩
    ·obtain rfl:i3=((([1]:List Int).getD i2 default)).toNat:=ot
     rw[yi (Nat.le_refl _)]at hz3;subst hz3;dsimp only at hz2
     refine AWP.exit ?_;refine yd ?_
     refine rS ?_
     exact⟨_,[0,1,2],hlt2,by(have h9:=hg1 i2;omega),hz2,sm⟩
   ·obtain rfl:i2=1:=ot
    rw[yi (Nat.le_refl _)]at hz2;subst hz2;dsimp only at hR
    refine AWP.exit ?_;refine yd ?_
    refine rS ?_
    refine AWP.cond rfl (fun hb => ?_) (fun hb => ?_)
    ·replace hR:=ct hR
     iterate 2 refine rS ?_
     refine AWP.ret ?_
     subst hR
     exact es
    ·replace hR:=cf hR
     refine rS ?_
     refine AWP.ret ?_
     subst hR
     exact es
  ·replace hR:=cf hR
   iterate 2 refine rS ?_
   refine AWP.block ?_
   refine AWP.lensS 9 rfl (fun hLn4 => ?_)
   generalize hz4:yh (y4t a0) (a0.Group.length-0) 0 ([]:List Int)=z4 at hR
   refine AWP.range (y4t a0) (fun i4 s4=>⟨[(1,.ptr 0 0),(3,.int .i64 ((zj a0.Kind).1)),(4,.int .i64 ((zj a0.Kind).2.1)),(10,.ref 1 1 0 s4.length),(58,encL 1 yp a0.Group),(59,.int .i64 (a0.Group.length:Int)),(60,.int .i64 (i4:Int))],[.box [.int .i64 a0.Kind,encL 1 yp a0.Group,.str a0.Letter,.str a0.Colors,.int .i64 a0.Period],.arr 2 1 s4.length (fun j=>yp (s4.getD j default))]⟩) (fun i4 s4=>s4.length≤18 * i4) (a0.Group.length) 0 ([]:List Int) [0,1] hz4 ot wt sm ?_
   clear hz4
   intro i4 s4 hi4 hW4 hz4
   refine rS ?_
   refine AWP.seq ?_
   refine AWP.cond rfl (fun hb => ?_) (fun hb => ?_)
   ·have hlt4:i4<a0.Group.length:=ot
    rw[yj hlt4]at hz4;simp only[y4t]at hz4
    iterate 2 refine rS ?_
    refine AWP.block ?_
    generalize hz5:yh (y0t a0 i4 s4) (((a0.Group.getD i4 default)).toNat-0) 0 s4=z5 at hz4
    refine AWP.range (y0t a0 i4 s4) (fun i5 s5=>⟨[(1,.ptr 0 0),(3,.int .i64 ((zj a0.Kind).1)),(4,.int .i64 ((zj a0.Kind).2.1)),(10,.ref 1 1 0 s5.length),(11,.int .i64 (i4:Int)),(58,encL 1 yp a0.Group),(59,.int .i64 (a0.Group.length:Int)),(60,.int .i64 (i4:Int)),(65,.int .i64 (a0.Group.getD i4 default)),(66,.int .i64 (i5:Int))],[.box [.int .i64 a0.Kind,encL 1 yp a0.Group,.str a0.Letter,.str a0.Colors,.int .i64 a0.Period],.arr 2 1 s5.length (fun j=>yp (s5.getD j default))]⟩) (fun i5 s5=>s5.length≤s4.length+2 * i5∧s5.length≤18 * i4+2 * i5) (((a0.Group.getD i4 default)).toNat) 0 s4 [0,1] hz5 ot wt sm ?_
    clear hz5
    intro i5 s5 hi5 hW5 hz5
    refine rS ?_
    refine AWP.seq ?_
    refine AWP.cond rfl (fun hb => ?_) (fun hb => ?_)
    ·have hlt5:i5<((a0.Group.getD i4 default)).toNat:=ot
     rw[yj hlt5]at hz5;simp only[y0t]at hz5
     iterate 2 refine rS ?_
     refine AWP.cond rfl (fun hb => ?_) (fun hb => ?_)
     ·simp only[hb,cond_true]at hz5
      iterate 3 refine rS ?_
      exact⟨_,[0,5],hlt5,wt,hz5,sm⟩
     ·simp only[hb,cond_false]at hz5
      refine rS ?_
      refine AWP.cond rfl (fun hb => ?_) (fun hb => ?_)
      ·simp only[hb,cond_true]at hz5
       iterate 3 refine rS ?_
       exact⟨_,[0,5],hlt5,wt,hz5,sm⟩
      ·simp only[hb,cond_false]at hz5
       iterate 2 refine rS ?_
       exact⟨_,[0,3],hlt5,wt,hz5,sm⟩
    ·obtain rfl:i5=((a0.Group.getD i4 default)).toNat:=ot
     rw[yi (Nat.le_refl _)]at hz5;subst hz5;dsimp only at hz4
     refine AWP.exit ?_;refine yd ?_
     refine rS ?_
     exact⟨_,[0,1],hlt4,by(have h9:=hg9 i4;omega),hz4,sm⟩
   ·obtain rfl:i4=a0.Group.length:=ot
    rw[yi (Nat.le_refl _)]at hz4;subst hz4;dsimp only at hR
    refine AWP.exit ?_;refine yd ?_
    refine rS ?_
    refine AWP.cond rfl (fun hb => ?_) (fun hb => ?_)
    ·replace hR:=ct hR
     iterate 2 refine rS ?_
     refine AWP.ret ?_
     subst hR
     exact es
    ·replace hR:=cf hR
     refine rS ?_
     refine AWP.ret ?_
     subst hR
     exact es
end N261
def D_zi : DF
 | [x0]=>some (ownL 2 1 yp (zi (rdG yf x0)),false,[wG eCharacter yf x0,bdCharacter (rdG yf x0),(rdG yf x0).Group.length≤4,∀ v∈(rdG yf x0).Group,v≤9])
 | _=>none
theorem yi3:OkD Tryz.prog 261 D_zi:=by unfold D_zi;exact dk N261.den
end Go.Ab

namespace Go.Ab
open Go Go.Proofs
def zbg (a0:Character):Int:=
 (bif (zae a0)then 0 else(bif (a0.Kind == 3)then 20 else(bif decide (1<(a0.Group.length:Int))then IntKind.wrap .i64 ((zje (zi a0))+(IntKind.wrap .i64 (((zj a0.Kind).2.2)+20)))else IntKind.wrap .i64 ((zje (zi a0))+((zj a0.Kind).2.2)))))
namespace N238
theorem DD:DOk Tryz.prog (Go.Ab.DD [(237,dP D_zae),(259,dP D_zj),(260,dP D_zje),(261,dP D_zi)]):=ya yjt.e <| ya y1v.e <| ya ybz.e <| ya yi3.e <| ye _
theorem dn:type_of% (And.intro @D_zae.eq_1 <| And.intro @D_zj.eq_1 <| And.intro @D_zje.eq_1 <| @D_zi.eq_1):=by and_intros<;>intros<;>rfl
theorem den (a0:Character) (hb0:bdCharacter a0) (hp0:a0.Group.length≤4) (hp1:∀ v∈a0.Group,v≤9):Den Tryz.prog 238 [.agg (eCharacter a0)] (.int .i64 (zbg a0)):=by
 generalize hR:zbg a0=r
 unfold zbg at hR
 refine di Tryz.func238 Tryz.ntmps238 Tryz.results238 ?_
 intro c hL hc hk
 obtain⟨hL0,_⟩:=hL
 have hw0:bwCharacter a0:=yq a0 hL0
 clear hL0
 simp only[pars,Nat.zero_add]
 iterate 2 refine rS ?_
 refine AWP.cond rfl (fun hb => ?_) (fun hb => ?_)
 ·replace hR:=ct hR
  refine rS ?_
  refine AWP.ret ?_
  subst hR
  exact es
 ·replace hR:=cf hR
  refine rS ?_
  refine AWP.cond rfl (fun hb => ?_) (fun hb => ?_)
  ·replace hR:=ct hR
   refine rS ?_
   refine AWP.ret ?_
   subst hR
   exact es
  ·replace hR:=cf hR
   iterate 2 refine rS ?_
   refine AWP.cond rfl (fun hb => ?_) (fun hb => ?_)
   ·replace hR:=ct hR
    iterate 2 refine rS ?_
    refine AWP.ret ?_
    subst hR
    exact es
   ·replace hR:=cf hR
    refine rS ?_
    refine AWP.ret ?_
    subst hR
    exact es
end N238
def D_zbg : DF
 | [x0]=>some (.int .i64 (zbg (rdG yf x0)),false,[wG eCharacter yf x0,bdCharacter (rdG yf x0),(rdG yf x0).Group.length≤4,∀ v∈(rdG yf x0).Group,v≤9])
 | _=>none
theorem yfy:OkD Tryz.prog 238 D_zbg:=by unfold D_zbg;exact dk N238.den
end Go.Ab

namespace Go.Ab
open Go Go.Proofs
def zpg (a0:Int):Bool:=
 (zb a0 0 359)
namespace N262
theorem DD:DOk Tryz.prog (Go.Ab.DD [(139,dP D_zb)]):=ya ygd.e <| ye _
theorem dn:type_of% (@D_zb.eq_1):=by and_intros<;>intros<;>rfl
theorem ol:type_of% (@zb.eq_1):=@zb.eq_1
theorem den (a0:Int)  : Den Tryz.prog 262 [.int .i64 a0] (.bool (zpg a0)):=by
 generalize hR:zpg a0=r
 unfold zpg at hR
 refine di Tryz.func262 Tryz.ntmps262 Tryz.results262 ?_
 intro c hL hc hk
 clear hL
 simp only[pars,Nat.zero_add]
 iterate 2 refine rS ?_
 refine AWP.ret ?_
 subst hR
 exact es
end N262
def D_zpg : DF
 | [x0]=>some (.bool (zpg (rdI x0)),false,[wI .i64 x0])
 | _=>none
theorem yl1:OkD Tryz.prog 262 D_zpg:=by unfold D_zpg;exact dk N262.den
end Go.Ab

namespace Go.Ab
open Go Go.Proofs
def zcg (a0:(List UInt8)):Bool:=
 (((a0.length:Int) == 1) && (zfb [87,82,71,89] a0))
namespace N263
theorem DD:DOk Tryz.prog (Go.Ab.DD [(242,dP D_zfb)]):=ya y2s.e <| ye _
theorem dn:type_of% (@D_zfb.eq_1):=by and_intros<;>intros<;>rfl
theorem den (a0:(List UInt8))  : Den Tryz.prog 263 [.str a0] (.bool (zcg a0)):=by
 generalize hR:zcg a0=r
 unfold zcg at hR
 refine di Tryz.func263 Tryz.ntmps263 Tryz.results263 ?_
 intro c hL hc hk
 obtain⟨hL0,_⟩:=hL
 have hw0:a0.length<9223372036854775808:=Nat.lt_succ_of_le hL0
 clear hL0
 simp only[pars,Nat.zero_add]
 iterate 2 refine rS ?_
 refine AWP.ret ?_
 subst hR
 exact es
end N263
def D_zcg : DF
 | [x0]=>some (.bool (zcg (rdS x0)),false,[wS x0])
 | _=>none
theorem y1z:OkD Tryz.prog 263 D_zcg:=by unfold D_zcg;exact dk N263.den
end Go.Ab

namespace Go.Ab
open Go Go.Proofs
def zdg (a0:Sector):Bool:=
 (((zpg a0.From) && (zpg a0.To)) && (zcg a0.Color))
namespace N239
theorem DD:DOk Tryz.prog (Go.Ab.DD [(262,dP D_zpg),(263,dP D_zcg)]):=ya yl1.e <| ya y1z.e <| ye _
theorem dn:type_of% (And.intro @D_zpg.eq_1 <| @D_zcg.eq_1):=by and_intros<;>intros<;>rfl
theorem den (a0:Sector)  : Den Tryz.prog 239 [.agg (eSector a0)] (.bool (zdg a0)):=by
 generalize hR:zdg a0=r
 unfold zdg at hR
 refine di Tryz.func239 Tryz.ntmps239 Tryz.results239 ?_
 intro c hL hc hk
 obtain⟨hL0,_⟩:=hL
 have hw0:bwSector a0:=yr a0 hL0
 clear hL0
 simp only[pars,Nat.zero_add]
 iterate 2 refine rS ?_
 refine AWP.ret ?_
 subst hR
 exact es
end N239
def D_zdg : DF
 | [x0]=>some (.bool (zdg (rdG yn x0)),false,[wG eSector yn x0])
 | _=>none
theorem y30:OkD Tryz.prog 239 D_zdg:=by unfold D_zdg;exact dk N239.den
end Go.Ab

namespace Go.Ab
open Go Go.Proofs
def zne (a0:Int) (a1:Int):Int:=
 (IntKind.wrap .i64 ((a0.tmod a1)+a1)).tmod a1
namespace N264
theorem DD:DOk Tryz.prog (Go.Ab.DD []):=ye _
theorem den (a0:Int) (a1:Int) (hp0:0<a1):Den Tryz.prog 264 [.int .i64 a0,.int .i64 a1] (.int .i64 (zne a0 a1)):=by
 generalize hR:zne a0 a1=r
 unfold zne at hR
 refine di Tryz.func264 Tryz.ntmps264 Tryz.results264 ?_
 intro c hL hc hk
 clear hL
 simp only[pars,Nat.zero_add]
 iterate 2 refine rS ?_
 refine AWP.ret ?_
 subst hR
 exact es
end N264
def D_zne : DF
 | [x0,x1]=>some (.int .i64 (zne (rdI x0) (rdI x1)),false,[wI .i64 x0,wI .i64 x1,0<(rdI x1)])
 | _=>none
theorem y0s:OkD Tryz.prog 264 D_zne:=by unfold D_zne;exact dk N264.den
end Go.Ab

namespace Go.Ab
open Go Go.Proofs
def zhd (a0:Sector):Int:=
 IntKind.wrap .i64 ((zne (IntKind.wrap .i64 ((IntKind.wrap .i64 (a0.To-a0.From))-1)) 360)+1)
namespace N241
theorem DD:DOk Tryz.prog (Go.Ab.DD [(264,dP D_zne)]):=ya y0s.e <| ye _
theorem dn:type_of% (@D_zne.eq_1):=by and_intros<;>intros<;>rfl
theorem den (a0:Sector)  : Den Tryz.prog 241 [.agg (eSector a0)] (.int .i64 (zhd a0)):=by
 generalize hR:zhd a0=r
 unfold zhd at hR
 refine di Tryz.func241 Tryz.ntmps241 Tryz.results241 ?_
 intro c hL hc hk
 obtain⟨hL0,_⟩:=hL
 have hw0:bwSector a0:=yr a0 hL0
 clear hL0
 simp only[pars,Nat.zero_add]
 iterate 2 refine rS ?_
 refine AWP.ret ?_
 subst hR
 exact es
end N241
def D_zhd : DF
 | [x0]=>some (.int .i64 (zhd (rdG yn x0)),false,[wG eSector yn x0])
 | _=>none
theorem y6s:OkD Tryz.prog 241 D_zhd:=by unfold D_zhd;exact dk N241.den
end Go.Ab

namespace Go.Ab
open Go Go.Proofs
def zhf (a0:Sector) (a1:Int):Bool:=
 decide ((zne (IntKind.wrap .i64 (a1-a0.From)) 360)<(zhd a0))
namespace N240
theorem DD:DOk Tryz.prog (Go.Ab.DD [(241,dP D_zhd),(264,dP D_zne)]):=ya y6s.e <| ya y0s.e <| ye _
theorem dn:type_of% (And.intro @D_zhd.eq_1 <| @D_zne.eq_1):=by and_intros<;>intros<;>rfl
theorem den (a0:Sector) (a1:Int)  : Den Tryz.prog 240 [.agg (eSector a0),.int .i64 a1] (.bool (zhf a0 a1)):=by
 generalize hR:zhf a0 a1=r
 unfold zhf at hR
 refine di Tryz.func240 Tryz.ntmps240 Tryz.results240 ?_
 intro c hL hc hk
 obtain⟨hL0,hL1,_⟩:=hL
 have hw0:bwSector a0:=yr a0 hL0
 clear hL0 hL1
 simp only[pars,Nat.zero_add]
 refine rS ?_
 refine rD 6 ?_
 refine AWP.ret ?_
 subst hR
 exact es
end N240
def D_zhf : DF
 | [x0,x1]=>some (.bool (zhf (rdG yn x0) (rdI x1)),false,[wG eSector yn x0,wI .i64 x1])
 | _=>none
theorem ytz:OkD Tryz.prog 240 D_zhf:=by unfold D_zhf;exact dk N240.den
end Go.Ab

namespace Go.Ab
open Go Go.Proofs
def ypo (a0:(List Sector)) (i1:Nat) (s1:Int) (i2:Nat) (s2:Unit):Except (Bool) (Unit):=
 (bif (((i2:Int) != (i1:Int)) && (zhf (a0.getD i1 default) ((a0.getD i2 default).From)))then .error false else .ok ())
def y9l (a0:(List Sector)) (i1:Nat) (s1:Int):Except (Bool) (Int):=
 (bif ((!(zdg (a0.getD i1 default))) || (decide (0<(i1:Int)) && decide (((a0.getD i1 default).From)≤((a0.getD ((IntKind.wrap .i64 ((i1:Int)-1)).toNat) default).From))))then .error false else(match yh (ypo a0 i1 s1) (a0.length-0) 0 ()with|.error e=>.error e|.ok s2=>.ok (IntKind.wrap .i64 (s1+(zhd (a0.getD i1 default))))))
def zcc (a0:(List Sector)):Bool:=
 (match yh (y9l a0) (a0.length-0) 0 0 with|.error e=>e|.ok s1=>((zbb (a0.length:Int) 12) && decide (s1≤360)))
namespace N203
theorem DD:DOk Tryz.prog (Go.Ab.DD [(112,dP D_zbb),(239,dP D_zdg),(240,dP D_zhf),(241,dP D_zhd)]):=ya yjh.e <| ya y30.e <| ya ytz.e <| ya y6s.e <| ye _
theorem dn:type_of% (And.intro @D_zbb.eq_1 <| And.intro @D_zdg.eq_1 <| And.intro @D_zhf.eq_1 <| @D_zhd.eq_1):=by and_intros<;>intros<;>rfl
theorem den (a0:(List Sector))  : Den Tryz.prog 203 [encL 3 eSector a0] (.bool (zcc a0)):=by
 generalize hR:zcc a0=r
 unfold zcc at hR
 refine di Tryz.func203 Tryz.ntmps203 Tryz.results203 ?_
 intro c hL hc hk
 obtain⟨hL0,_⟩:=hL
 have hw0:a0.length<9223372036854775808:=Nat.lt_succ_of_le (yb hL0).1
 have hw1:∀ v∈a0,bwSector v:=fun v hv=>yr v ((yb hL0).2 v hv)
 clear hL0
 simp only[pars,Nat.zero_add]
 iterate 3 refine rS ?_
 refine AWP.block ?_
 generalize hz1:yh (y9l a0) (a0.length-0) 0 0=z1 at hR
 refine AWP.range (y9l a0) (fun i1 s1=>⟨[(0,encL 3 eSector a0),(3,.int .i64 s1),(8,encL 3 eSector a0),(9,.int .i64 (a0.length:Int)),(10,.int .i64 (i1:Int))],[]⟩) (fun i1 s1=>True) (a0.length) 0 0 [] hz1 ot wt sm ?_
 clear hz1
 intro i1 s1 hi1 hW1 hz1
 refine rS ?_
 refine AWP.seq ?_
 refine AWP.cond rfl (fun hb => ?_) (fun hb => ?_)
 ·have hlt1:i1<a0.length:=ot
  rw[yj hlt1]at hz1;simp only[y9l]at hz1
  refine rS ?_
  refine rD 18 ?_
  refine AWP.cond rfl (fun hb => ?_) (fun hb => ?_)
  ·simp only[hb,cond_true]at hz1
   refine rS ?_
   refine AWP.ret ?_
   subst hz1
   dsimp only at hR
   subst hR
   exact es
  ·simp only[hb,cond_false]at hz1
   refine rS ?_
   refine AWP.block ?_
   generalize hz2:yh (ypo a0 i1 s1) (a0.length-0) 0 ()=z2 at hz1
   refine AWP.range (ypo a0 i1 s1) (fun i2 s2=>⟨[(0,encL 3 eSector a0),(3,.int .i64 s1),(4,.int .i64 (i1:Int)),(5,.ptr 0 0),(8,encL 3 eSector a0),(9,.int .i64 (a0.length:Int)),(10,.int .i64 (i1:Int)),(33,encL 3 eSector a0),(34,.int .i64 (a0.length:Int)),(35,.int .i64 (i2:Int))],[.box [.int .i64 ((a0.getD i1 default).From),.int .i64 ((a0.getD i1 default).To),.str ((a0.getD i1 default).Color)]]⟩) (fun i2 s2=>True) (a0.length) 0 () [0] hz2 ot wt sm ?_
   clear hz2
   intro i2 s2 hi2 hW2 hz2
   refine rS ?_
   refine AWP.seq ?_
   refine AWP.cond rfl (fun hb => ?_) (fun hb => ?_)
   ·have hlt2:i2<a0.length:=ot
    rw[yj hlt2]at hz2;simp only[ypo]at hz2
    iterate 2 refine rS ?_
    refine AWP.cond rfl (fun hb => ?_) (fun hb => ?_)
    ·simp only[hb,cond_true]at hz2
     refine rS ?_
     refine AWP.ret ?_
     subst hz2
     dsimp only at hz1
     subst hz1
     dsimp only at hR
     subst hR
     exact es
    ·simp only[hb,cond_false]at hz2
     refine rS ?_
     exact⟨_,[0],hlt2,wt,hz2,sm⟩
   ·obtain rfl:i2=a0.length:=ot
    rw[yi (Nat.le_refl _)]at hz2;subst hz2;dsimp only at hz1
    refine AWP.exit ?_;refine yd ?_
    iterate 2 refine rS ?_
    exact⟨_,[],hlt1,wt,hz1,sm⟩
 ·obtain rfl:i1=a0.length:=ot
  rw[yi (Nat.le_refl _)]at hz1;subst hz1;dsimp only at hR
  refine AWP.exit ?_;refine yd ?_
  refine rS ?_
  refine AWP.ret ?_
  subst hR
  exact es
end N203
def D_zcc : DF
 | [x0]=>some (.bool (zcc (rdL yn x0)),false,[wL 3 eSector yn x0])
 | _=>none
theorem yi0:OkD Tryz.prog 203 D_zcc:=by unfold D_zcc;exact dk N203.den
end Go.Ab

namespace Go.Ab
open Go Go.Proofs
def yvn (a0:(List Sector)) (i1:Nat) (s1:List UInt8) (i2:Nat) (s2:List UInt8):Except ((List UInt8)) (List UInt8):=
 (bif ((((a0.getD i2 default).Color) == (([87,82,71,89].take ((IntKind.wrap .i64 ((i1:Int)+1)).toNat)).drop i1)) && (!(zfb s2 (([87,82,71,89].take ((IntKind.wrap .i64 ((i1:Int)+1)).toNat)).drop i1))))then .ok (s2++(([87,82,71,89].take ((IntKind.wrap .i64 ((i1:Int)+1)).toNat)).drop i1))else .ok s2)
def ybl (a0:(List Sector)) (i1:Nat) (s1:List UInt8):Except ((List UInt8)) (List UInt8):=
 (match yh (yvn a0 i1 s1) (a0.length-0) 0 s1 with|.error e=>.error e|.ok s2=>.ok s2)
def zdc (a0:(List Sector)):(List UInt8):=
 (match yh (ybl a0) ([87,82,71,89].length-0) 0 []with|.error e=>e|.ok s1=>s1)
namespace N204
theorem DD:DOk Tryz.prog (Go.Ab.DD [(242,dP D_zfb)]):=ya y2s.e <| ye _
theorem dn:type_of% (@D_zfb.eq_1):=by and_intros<;>intros<;>rfl
theorem o0 {p:Prop} (h:p:=by(first|(have h4:=hq4 i1;have h1:=hW1;have h2:=hW2;and_intros<;>first|omega|exact y4s (by omega)));first|done|fail):p:=h
theorem den (a0:(List Sector)) (hb0:a0.length<1099511627776) (hb1:∀ v∈a0,bdSector v):Den Tryz.prog 204 [encL 3 eSector a0] (.str (zdc a0)):=by
 generalize hR:zdc a0=r
 unfold zdc at hR
 refine di Tryz.func204 Tryz.ntmps204 Tryz.results204 ?_
 intro c hL hc hk
 obtain⟨hL0,_⟩:=hL
 have hw0:a0.length<9223372036854775808:=Nat.lt_succ_of_le (yb hL0).1
 have hw1:∀ v∈a0,bwSector v:=fun v hv=>yr v ((yb hL0).2 v hv)
 clear hL0
 simp only[pars,Nat.zero_add]
 have hq4:=ygy
 iterate 3 refine rS ?_
 refine AWP.block ?_
 generalize hz1:yh (ybl a0) ([87,82,71,89].length-0) 0 []=z1 at hR
 refine AWP.range (ybl a0) (fun i1 s1=>⟨[(0,encL 3 eSector a0),(3,.str s1),(8,.ptr 0 0)],[.it [87,82,71,89] i1 (decide (i1<[87,82,71,89].length))]⟩) (fun i1 s1=>s1.length≤1099511627776 * i1) ([87,82,71,89].length) 0 [] [0] hz1 ot (by(simp)) sm ?_
 clear hz1
 intro i1 s1 hi1 hW1 hz1
 refine AWP.seq ?_
 by_cases hlt1:i1<[87,82,71,89].length
 ·rw[yj hlt1]at hz1;simp only[ybl]at hz1
  rw[decide_eq_true hlt1]
  refine rS ?_
  refine AWP.seq ?_
  refine AWP.cond rfl (fun hb => ?_) (fun hb=>nomatch hb)
  iterate 2 refine rS ?_
  refine AWP.block ?_
  generalize hz2:yh (yvn a0 i1 s1) (a0.length-0) 0 s1=z2 at hz1
  refine AWP.range (yvn a0 i1 s1) (fun i2 s2=>⟨[(0,encL 3 eSector a0),(3,.str s2),(4,.int .i64 (i1:Int)),(8,.ptr 0 0),(12,encL 3 eSector a0),(13,.int .i64 (a0.length:Int)),(14,.int .i64 (i2:Int))],[.it [87,82,71,89] (i1+1) (decide (i1+1<[87,82,71,89].length))]⟩) (fun i2 s2=>s2.length≤1099511627776 * i1+i2) (a0.length) 0 s1 [0] hz2 ot (by(exact hW1)) sm ?_
  clear hz2
  intro i2 s2 hi2 hW2 hz2
  refine rS ?_
  refine AWP.seq ?_
  refine AWP.cond rfl (fun hb => ?_) (fun hb => ?_)
  ·have hlt2:i2<a0.length:=ot
   rw[yj hlt2]at hz2;simp only[yvn]at hz2
   iterate 3 refine rS ?_
   refine AWP.cond rfl (fun hb => ?_) (fun hb => ?_)
   ·simp only[hb,cond_true]at hz2
    iterate 2 refine rS ?_
    exact⟨_,[0],hlt2,by(have h4:=hq4 i1;have h2:=hW2;simp only[ln]at *;omega),hz2,sm⟩
   ·simp only[hb,cond_false]at hz2
    refine rS ?_
    exact⟨_,[0],hlt2,by(have h4:=hq4 i1;have h2:=hW2;simp only[ln]at *;omega),hz2,sm⟩
  ·obtain rfl:i2=a0.length:=ot
   rw[yi (Nat.le_refl _)]at hz2;subst hz2;dsimp only at hz1
   refine AWP.exit ?_;refine yd ?_
   exact⟨_,[0],hlt1,by(have h1:=hW1;omega),hz1,sm⟩
 ·obtain rfl:i1=[87,82,71,89].length:=by omega
  rw[yi (Nat.le_refl _)]at hz1;subst hz1;dsimp only at hR
  simp only[Nat.lt_irrefl,decide_false]
  refine rS ?_
  refine AWP.seq ?_
  refine AWP.cond rfl (fun hb=>nomatch hb) (fun hb => ?_)
  refine AWP.exit ?_;refine yd ?_
  refine rS ?_
  refine AWP.ret ?_
  subst hR
  exact es
end N204
def D_zdc : DF
 | [x0]=>some (.str (zdc (rdL yn x0)),false,[wL 3 eSector yn x0,(rdL yn x0).length<1099511627776,∀ v∈(rdL yn x0),bdSector v])
 | _=>none
theorem yx0:OkD Tryz.prog 204 D_zdc:=by unfold D_zdc;exact dk N204.den
end Go.Ab

namespace Go.Ab
open Go Go.Proofs
def zqf (a0:Int):Bool:=
 (zb a0 1 9)
namespace N196
theorem DD:DOk Tryz.prog (Go.Ab.DD [(139,dP D_zb)]):=ya ygd.e <| ye _
theorem dn:type_of% (@D_zb.eq_1):=by and_intros<;>intros<;>rfl
theorem ol:type_of% (@zb.eq_1):=@zb.eq_1
theorem den (a0:Int)  : Den Tryz.prog 196 [.int .i64 a0] (.bool (zqf a0)):=by
 generalize hR:zqf a0=r
 unfold zqf at hR
 refine di Tryz.func196 Tryz.ntmps196 Tryz.results196 ?_
 intro c hL hc hk
 clear hL
 simp only[pars,Nat.zero_add]
 iterate 2 refine rS ?_
 refine AWP.ret ?_
 subst hR
 exact es
end N196
def D_zqf : DF
 | [x0]=>some (.bool (zqf (rdI x0)),false,[wI .i64 x0])
 | _=>none
theorem y9s:OkD Tryz.prog 196 D_zqf:=by unfold D_zqf;exact dk N196.den
end Go.Ab

namespace Go.Ab
open Go Go.Proofs
def zrf (a0:Int) (a1:Int):Bool:=
 (decide (0≤a0) && decide (a0<a1))
namespace N251
theorem DD:DOk Tryz.prog (Go.Ab.DD []):=ye _
theorem den (a0:Int) (a1:Int)  : Den Tryz.prog 251 [.int .i64 a0,.int .i64 a1] (.bool (zrf a0 a1)):=by
 generalize hR:zrf a0 a1=r
 unfold zrf at hR
 refine di Tryz.func251 Tryz.ntmps251 Tryz.results251 ?_
 intro c hL hc hk
 clear hL
 simp only[pars,Nat.zero_add]
 iterate 2 refine rS ?_
 refine AWP.ret ?_
 subst hR
 exact es
end N251
def D_zrf : DF
 | [x0,x1]=>some (.bool (zrf (rdI x0) (rdI x1)),false,[wI .i64 x0,wI .i64 x1])
 | _=>none
theorem yr1:OkD Tryz.prog 251 D_zrf:=by unfold D_zrf;exact dk N251.den
end Go.Ab

namespace Go.Ab
open Go Go.Proofs
def zid (a0:Int) (a1:(List (List UInt8))):(List UInt8):=
 (bif (!(zrf a0 (a1.length:Int)))then[]else(a1.getD ((a0).toNat) default))
namespace N232
theorem DD:DOk Tryz.prog (Go.Ab.DD [(251,dP D_zrf)]):=ya yr1.e <| ye _
theorem dn:type_of% (@D_zrf.eq_1):=by and_intros<;>intros<;>rfl
theorem ol:type_of% (@zrf.eq_1):=@zrf.eq_1
theorem den (a0:Int) (a1:(List (List UInt8)))  : Den Tryz.prog 232 [.int .i64 a0,encL 1 eS a1] (.str (zid a0 a1)):=by
 generalize hR:zid a0 a1=r
 unfold zid at hR
 refine di Tryz.func232 Tryz.ntmps232 Tryz.results232 ?_
 intro c hL hc hk
 obtain⟨hL0,hL1,_⟩:=hL
 have hw0:a1.length<9223372036854775808:=Nat.lt_succ_of_le (yb hL1).1
 have hw1:∀ v∈a1,bwS v:=fun v hv=>yjx v ((yb hL1).2 v hv)
 clear hL0 hL1
 simp only[pars,Nat.zero_add]
 iterate 2 refine rS ?_
 refine AWP.cond rfl (fun hb => ?_) (fun hb => ?_)
 ·replace hR:=ct hR
  refine rS ?_
  refine AWP.ret ?_
  subst hR
  exact es
 ·replace hR:=cf hR
  refine rS ?_
  refine AWP.ret ?_
  subst hR
  exact es
end N232
def D_zid : DF
 | [x0,x1]=>some (.str (zid (rdI x0) (rdL dS x1)),false,[wI .i64 x0,wL 1 eS dS x1])
 | _=>none
theorem yen:OkD Tryz.prog 232 D_zid:=by unfold D_zid;exact dk N232.den
end Go.Ab

namespace Go.Ab
open Go Go.Proofs
def zsf (a0:Int):(List UInt8):=
 (zid a0 ([[],[82],[71],[66,89],[66,89,66],[89,66],[89,66,89],[66,82,66],[82,87],[89]]:List (List UInt8)))
namespace N197
theorem DD:DOk Tryz.prog (Go.Ab.DD [(232,dP D_zid)]):=ya yen.e <| ye _
theorem dn:type_of% (@D_zid.eq_1):=by and_intros<;>intros<;>rfl
theorem lx {p:Prop} (h:p:=by(exact lxx);first|done|fail):p:=h
theorem den (a0:Int)  : Den Tryz.prog 197 [.int .i64 a0] (.str (zsf a0)):=by
 generalize hR:zsf a0=r
 unfold zsf at hR
 refine di Tryz.func197 Tryz.ntmps197 Tryz.results197 ?_
 intro c hL hc hk
 clear hL
 simp only[pars,Nat.zero_add]
 iterate 2 refine rS ?_
 refine AWP.ret ?_
 subst hR
 exact es
end N197
def D_zsf : DF
 | [x0]=>some (.str (zsf (rdI x0)),false,[wI .i64 x0])
 | _=>none
theorem ybt:OkD Tryz.prog 197 D_zsf:=by unfold D_zsf;exact dk N197.den
end Go.Ab

namespace Go.Ab
open Go Go.Proofs
theorem yes {P:List UInt8→Prop} (n:Int) (l:List (List UInt8)) (h0:P []) (h:∀ y∈l,P y):P (zid n l):=by
 unfold zid
 cases hb:zrf n (l.length:Int)with
 | false=>exact h0
 | true=>
  simp only[Bool.not_true,cond_false]
  rw[List.getD_eq_getElem?_getD]
  by_cases hi:n.toNat<l.length
  ·rw[List.getElem?_eq_getElem hi];exact h _ (List.getElem_mem hi)
  ·rw[List.getElem?_eq_none (by omega)];exact h0
end Go.Ab
