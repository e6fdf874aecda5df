/- A part of a proof: walks of functions and lemmas of our own. No conditions. -/
import Derived.Test.YtaneiddiakjgdaaGreatDoorWAl
import Derived.Test.YtaneiddiakjgdaaGreatDoorWAv
import Derived.Test.YtaneiddiakjgdaaGreatDoorWAi
set_option linter.unusedSectionVars false
set_option linter.unusedVariables false
set_option linter.unusedSimpArgs false
set_option maxHeartbeats 1000000
namespace Go.Ab
open Go Go.Proofs
def zwf (a0:Int):(List UInt8):=
 (([[],[99,97,110],[99,111,110,101],[117,112],[98,97,115,101],[100,111,119,110],[112,111,105,110,116],[98,97,108,108,115],[98,97,108,108],[99,114,111,115,115]]:List (List UInt8)).getD ((a0).toNat) default)
namespace N222
theorem DD:DOk Tryz.prog (Go.Ab.DD []):=ye _
theorem lx {p:Prop} (h:p:=by(exact lxx);first|done|fail):p:=h
theorem den (a0:Int) (hp0:0≤a0) (hp1:a0≤9):Den Tryz.prog 222 [.int .i64 a0] (.str (zwf a0)):=by
 generalize hR:zwf a0=r
 unfold zwf at hR
 refine di Tryz.func222 Tryz.ntmps222 Tryz.results222 ?_
 intro c hL hc hk
 clear hL
 simp only[pars,Nat.zero_add]
 iterate 2 refine rS ?_
 refine AWP.ret ?_
 subst hR
 exact es
end N222
def D_zwf : DF
 | [x0]=>some (.str (zwf (rdI x0)),false,[wI .i64 x0,0≤(rdI x0),(rdI x0)≤9])
 | _=>none
theorem yjy:OkD Tryz.prog 222 D_zwf:=by unfold D_zwf;exact dk N222.den
end Go.Ab

namespace Go.Ab
open Go Go.Proofs
def zgb (a0:Int):(List (List UInt8)):=
 (bif (a0 == 1)then[[99,97,110],[112,105,108,108,97,114],[115,112,97,114]]else(bif (a0 == 2)then[[99,111,110,101],[112,105,108,108,97,114],[115,112,97,114]]else(bif (a0 == 8)then[[115,112,104,101,114,101],[112,105,108,108,97,114],[115,112,97,114]]else(bif (a0 == 9)then[[99,97,110],[99,111,110,101],[112,105,108,108,97,114],[115,112,97,114],[115,112,104,101,114,101]]else[[112,105,108,108,97,114],[115,112,97,114]]))))
namespace N223
theorem DD:DOk Tryz.prog (Go.Ab.DD []):=ye _
theorem lx {p:Prop} (h:p:=by(exact lxx);first|done|fail):p:=h
theorem den (a0:Int)  : Den Tryz.prog 223 [.int .i64 a0] (ownL 9 1 eS (zgb a0)):=by
 generalize hR:zgb a0=r
 unfold zgb at hR
 refine di Tryz.func223 Tryz.ntmps223 Tryz.results223 ?_
 intro c hL hc hk
 clear hL
 simp only[pars,Nat.zero_add]
 iterate 3 refine rS ?_
 refine AWP.cond rfl (fun hb => ?_) (fun hb => ?_)
 ·replace hR:=ct hR
  refine rS ?_
  refine AWP.ret ?_
  subst hR
  exact es
 ·replace hR:=cf hR
  refine rS ?_
  refine AWP.cond rfl (fun hb => ?_) (fun hb => ?_)
  ·replace hR:=ct hR
   refine rS ?_
   refine AWP.ret ?_
   subst hR
   exact es
  ·replace hR:=cf hR
   refine rS ?_
   refine AWP.cond rfl (fun hb => ?_) (fun hb => ?_)
   ·replace hR:=ct hR
    refine rS ?_
    refine AWP.ret ?_
    subst hR
    exact es
   ·replace hR:=cf hR
    refine rS ?_
    refine AWP.cond rfl (fun hb => ?_) (fun hb => ?_)
    ·replace hR:=ct hR
     refine rS ?_
     refine AWP.ret ?_
     subst hR
     exact es
    ·replace hR:=cf hR
     refine rS ?_
     refine AWP.ret ?_
     subst hR
     exact es
end N223
def D_zgb : DF
 | [x0]=>some (ownL 9 1 eS (zgb (rdI x0)),false,[wI .i64 x0])
 | _=>none
theorem ygz:OkD Tryz.prog 223 D_zgb:=by unfold D_zgb;exact dk N223.den
end Go.Ab

namespace Go.Ab
open Go Go.Proofs
def ypk (a0:Mark) (i1:Nat) (s1:Unit):Except (Bool) (Unit):=
 (bif (((zgb a0.Kind).getD i1 default) == a0.Shape)then .error true else .ok ())
def ztd (a0:Mark):Bool:=
 (bif (a0.Kind == 0)then(a0.Kind == 0 && (a0.Colors == [] && (a0.Shape == [] && a0.Topmark == [])))else(bif (((!(znd a0.Kind)) || (a0.Colors != (zvf a0.Kind))) || ((a0.Topmark != []) && (a0.Topmark != (zwf a0.Kind))))then false else(match yh (ypk a0) (((zgb a0.Kind).length)-0) 0 ()with|.error e=>e|.ok s1=>false)))
namespace N189
theorem DD:DOk Tryz.prog (Go.Ab.DD [(220,dP D_znd),(221,dP D_zvf),(222,dP D_zwf),(223,dP D_zgb)]):=ya ynz.e <| ya y0x.e <| ya yjy.e <| ya ygz.e <| ye _
theorem dn:type_of% (And.intro @D_znd.eq_1 <| And.intro @D_zvf.eq_1 <| And.intro @D_zwf.eq_1 <| @D_zgb.eq_1):=by and_intros<;>intros<;>rfl
theorem o0 {p:Prop} (h:p:=by(first|(simp only[znd,zd];refine⟨fun h => ?_,fun h _ => ?_⟩<;>(simp at h;omega)));first|done|fail):p:=h
theorem den (a0:Mark)  : Den Tryz.prog 189 [.ep (eMark a0)] (.bool (ztd a0)):=by
 generalize hR:ztd a0=r
 unfold ztd at hR
 refine di Tryz.func189 Tryz.ntmps189 Tryz.results189 ?_
 intro c hL hc hk
 obtain⟨hL0,_⟩:=hL
 have hw0:bwMark a0:=ysd a0 hL0
 clear hL0
 simp only[pars,Nat.zero_add]
 have hs5:(zgb a0.Kind).length≤5:=by unfold zgb;simp only[Bool.cond_eq_ite];(repeat' split)<;>simp
 iterate 2 refine rS ?_
 refine AWP.cond rfl (fun hb => ?_) (fun hb => ?_)
 ·replace hR:=ct hR
  refine rS ?_
  refine AWP.ret ?_
  subst hR
  exact es
 ·replace hR:=cf hR
  refine rD 37 ?_
  refine AWP.cond rfl (fun hb => ?_) (fun hb => ?_)
  ·replace hR:=ct hR
   refine rS ?_
   refine AWP.ret ?_
   subst hR
   exact es
  ·replace hR:=cf hR
   iterate 2 refine rS ?_
   refine AWP.block ?_
   generalize hz1:yh (ypk a0) (((zgb a0.Kind).length)-0) 0 ()=z1 at hR
   refine AWP.range (ypk a0) (fun i1 s1=>⟨[(0,.ep (eMark a0)),(3,.ref 0 1 0 ((zgb a0.Kind).length)),(4,.int .i64 (i1:Int))],[.arr 9 1 (zgb a0.Kind).length (fun j=>eS ((zgb a0.Kind).getD j default))]⟩) (fun i1 s1=>True) (((zgb a0.Kind).length)) 0 () [0] hz1 ot wt sm ?_
   clear hz1
   intro i1 s1 hi1 hW1 hz1
   refine rS ?_
   refine AWP.cond rfl (fun hb => ?_) (fun hb => ?_)
   ·have hlt1:i1<((zgb a0.Kind).length):=ot
    rw[yj hlt1]at hz1;simp only[ypk]at hz1
    refine rD 8 ?_
    refine AWP.cond rfl (fun hb => ?_) (fun hb => ?_)
    ·simp only[hb,cond_true]at hz1
     refine rS ?_
     refine AWP.ret ?_
     subst hz1
     dsimp only at hR
     subst hR
     exact es
    ·simp only[hb,cond_false]at hz1
     refine rS ?_
     exact⟨_,[0],hlt1,wt,hz1,sm⟩
   ·obtain rfl:i1=((zgb a0.Kind).length):=ot
    rw[yi (Nat.le_refl _)]at hz1;subst hz1;dsimp only at hR
    refine AWP.exit ?_;refine yd ?_
    refine rS ?_
    refine AWP.ret ?_
    subst hR
    exact es
end N189
def D_ztd : DF
 | [x0]=>some (.bool (ztd (rdP ymf x0)),false,[wP eMark ymf x0])
 | _=>none
theorem yu0:OkD Tryz.prog 189 D_ztd:=by unfold D_ztd;exact dk N189.den
end Go.Ab

namespace Go.Ab
open Go Go.Proofs
def zif (a0:Mark):Bool:=
 (ztd a0)
namespace N150
theorem DD:DOk Tryz.prog (Go.Ab.DD [(189,dP D_ztd)]):=ya yu0.e <| ye _
theorem dn:type_of% (@D_ztd.eq_1):=by and_intros<;>intros<;>rfl
theorem den (a0:Mark)  : Den Tryz.prog 150 [.agg (eMark a0)] (.bool (zif a0)):=by
 generalize hR:zif a0=r
 unfold zif at hR
 refine di Tryz.func150 Tryz.ntmps150 Tryz.results150 ?_
 intro c hL hc hk
 obtain⟨hL0,_⟩:=hL
 have hw0:bwMark a0:=ysd a0 hL0
 clear hL0
 simp only[pars,Nat.zero_add]
 iterate 2 refine rS ?_
 refine AWP.ret ?_
 subst hR
 exact es
end N150
def D_zif : DF
 | [x0]=>some (.bool (zif (rdG ymf x0)),false,[wG eMark ymf x0])
 | _=>none
theorem yq0:OkD Tryz.prog 150 D_zif:=by unfold D_zif;exact dk N150.den
end Go.Ab

namespace Go.Ab
open Go Go.Proofs
def zxf (a0:Point):Bool:=
 ((zd a0.X 0 200000) && (zd a0.Y 0 200000))
namespace N149
theorem DD:DOk Tryz.prog (Go.Ab.DD [(137,dP D_zd)]):=ya y9d.e <| ye _
theorem dn:type_of% (@D_zd.eq_1):=by and_intros<;>intros<;>rfl
theorem ol:type_of% (@zd.eq_1):=@zd.eq_1
theorem den (a0:Point)  : Den Tryz.prog 149 [.agg (ePoint a0)] (.bool (zxf a0)):=by
 generalize hR:zxf a0=r
 unfold zxf at hR
 refine di Tryz.func149 Tryz.ntmps149 Tryz.results149 ?_
 intro c hL hc hk
 clear hL
 simp only[pars,Nat.zero_add]
 iterate 2 refine rS ?_
 refine AWP.ret ?_
 subst hR
 exact es
end N149
def D_zxf : DF
 | [x0]=>some (.bool (zxf (rdG y6e x0)),false,[wG ePoint y6e x0])
 | _=>none
theorem ysx:OkD Tryz.prog 149 D_zxf:=by unfold D_zxf;exact dk N149.den
end Go.Ab

namespace Go.Ab
open Go Go.Proofs
def zye (a0:Character):Bool:=
 (((((a0.Kind == 0) && ((a0.Group.length:Int) == 0)) && (a0.Letter == [])) && (a0.Colors == [])) && (a0.Period == 0))
namespace N151
theorem DD:DOk Tryz.prog (Go.Ab.DD []):=ye _
theorem den (a0:Character)  : Den Tryz.prog 151 [.ep (eCharacter a0)] (.bool (zye a0)):=by
 generalize hR:zye a0=r
 unfold zye at hR
 refine di Tryz.func151 Tryz.ntmps151 Tryz.results151 ?_
 intro c hL hc hk
 obtain⟨hL0,_⟩:=hL
 have hw0:bwCharacter a0:=yq a0 hL0
 clear hL0
 simp only[pars,Nat.zero_add]
 iterate 2 refine rS ?_
 refine AWP.ret ?_
 subst hR
 exact es
end N151
def D_zye : DF
 | [x0]=>some (.bool (zye (rdP yf x0)),false,[wP eCharacter yf x0])
 | _=>none
theorem yny:OkD Tryz.prog 151 D_zye:=by unfold D_zye;exact dk N151.den
end Go.Ab

namespace Go.Ab
open Go Go.Proofs
def zyg (a0:(List Int)):(List Int):=
 ([]:List Int)++a0
namespace N207
theorem DD:DOk Tryz.prog (Go.Ab.DD []):=ye _
theorem den (a0:(List Int)) (hb0:a0.length<1099511627776):Den Tryz.prog 207 [encL 1 yp a0] (ownL 2 1 yp (zyg a0)):=by
 generalize hR:zyg a0=r
 unfold zyg at hR
 refine di Tryz.func207 Tryz.ntmps207 Tryz.results207 ?_
 intro c hL hc hk
 obtain⟨hL0,_⟩:=hL
 have hw0:a0.length<9223372036854775808:=Nat.lt_succ_of_le (yb hL0).1
 clear hL0
 simp only[pars,Nat.zero_add]
 iterate 2 refine rS ?_
 refine AWP.ret ?_
 subst hR
 exact es
end N207
def D_zyg : DF
 | [x0]=>some (ownL 2 1 yp (zyg (rdL ylb x0)),false,[wL 1 yp ylb x0,(rdL ylb x0).length<1099511627776])
 | _=>none
theorem yo0:OkD Tryz.prog 207 D_zyg:=by unfold D_zyg;exact dk N207.den
end Go.Ab

namespace Go.Ab
open Go Go.Proofs
def zzg (a0:Character):Character:=
 { Kind:=a0.Kind,Group:=(zyg a0.Group),Letter:=a0.Letter,Colors:=a0.Colors,Period:=a0.Period:Character }
namespace N171
theorem DD:DOk Tryz.prog (Go.Ab.DD [(207,dP D_zyg)]):=ya yo0.e <| ye _
theorem dn:type_of% (@D_zyg.eq_1):=by and_intros<;>intros<;>rfl
theorem den (a0:Character) (hb0:bdCharacter a0):Den Tryz.prog 171 [.ep (eCharacter a0)] (.agg (y7b (zzg a0))):=by
 generalize hR:zzg a0=r
 unfold zzg at hR
 refine di Tryz.func171 Tryz.ntmps171 Tryz.results171 ?_
 intro c hL hc hk
 obtain⟨hL0,_⟩:=hL
 have hw0:bwCharacter a0:=yq a0 hL0
 clear hL0
 simp only[pars,Nat.zero_add]
 iterate 4 refine rS ?_
 refine AWP.ret ?_
 subst hR
 exact es
end N171
def D_zzg : DF
 | [x0]=>some (.agg (y7b (zzg (rdP yf x0))),false,[wP eCharacter yf x0,bdCharacter (rdP yf x0)])
 | _=>none
theorem y70:OkD Tryz.prog 171 D_zzg:=by unfold D_zzg;exact dk N171.den
end Go.Ab

namespace Go.Ab
open Go Go.Proofs
def zkc (a0:Aid):Aid:=
 { Number:=a0.Number,Name:=a0.Name,At:=a0.At,Height:=a0.Height,Mark:=a0.Mark,Light:=zzg a0.Light,Sectors:=([]:List Sector)++a0.Sectors,Intensity:=a0.Intensity:Aid }
namespace N106
theorem DD:DOk Tryz.prog (Go.Ab.DD [(171,dP D_zzg)]):=ya y70.e <| ye _
theorem dn:type_of% (@D_zzg.eq_1):=by and_intros<;>intros<;>rfl
theorem den (a0:Aid) (hb0:bdAid a0):Den Tryz.prog 106 [.ep (eAid a0)] (.agg (ygb (zkc a0))):=by
 generalize hR:zkc a0=r
 unfold zkc at hR
 refine di Tryz.func106 Tryz.ntmps106 Tryz.results106 ?_
 intro c hL hc hk
 obtain⟨hL0,_⟩:=hL
 have hw0:bwAid a0:=yt a0 hL0
 clear hL0
 simp only[pars,Nat.zero_add]
 iterate 5 refine rS ?_
 refine AWP.ret ?_
 subst hR
 exact es
end N106
def D_zkc : DF
 | [x0]=>some (.agg (ygb (zkc (rdP dAid x0))),false,[wP eAid dAid x0,bdAid (rdP dAid x0)])
 | _=>none
theorem y2i:OkD Tryz.prog 106 D_zkc:=by unfold D_zkc;exact dk N106.den
end Go.Ab

namespace Go.Ab
open Go Go.Proofs
def ynu (a0:(List Aid)) (i1:Nat) (s1:List Aid):Except ((List Aid)) (List Aid):=
 .ok (s1++[zkc (a0.getD i1 default)])
def zt (a0:(List Aid)):(List Aid):=
 (match yh (ynu a0) (a0.length-0) 0 ([]:List Aid)with|.error e=>e|.ok s1=>s1)
namespace N155
theorem DD:DOk Tryz.prog (Go.Ab.DD [(106,dP D_zkc)]):=ya y2i.e <| ye _
theorem dn:type_of% (@D_zkc.eq_1):=by and_intros<;>intros<;>rfl
theorem den (a0:(List Aid)) (hb0:a0.length<1099511627776) (hb1:∀ v∈a0,bdAid v) (hp0:a0.length≤1073741824):Den Tryz.prog 155 [encL 16 eAid a0] (ownL 63 16 ygb (zt a0)):=by
 generalize hR:zt a0=r
 unfold zt at hR
 refine di Tryz.func155 Tryz.ntmps155 Tryz.results155 ?_
 intro c hL hc hk
 obtain⟨hL0,_⟩:=hL
 have hw0:a0.length<9223372036854775808:=Nat.lt_succ_of_le (yb hL0).1
 have hw1:∀ v∈a0,bwAid v:=fun v hv=>yt v ((yb hL0).2 v hv)
 clear hL0
 simp only[pars,Nat.zero_add]
 iterate 3 refine rS ?_
 refine AWP.block ?_
 generalize hz1:yh (ynu a0) (a0.length-0) 0 ([]:List Aid)=z1 at hR
 refine AWP.range (ynu a0) (fun i1 s1=>⟨[(0,encL 16 eAid a0),(3,.ref 0 16 0 s1.length),(4,.int .i64 (i1:Int))],[.arr 63 16 s1.length (fun j=>ygb (s1.getD j default))]⟩) (fun i1 s1=>s1.length≤([]:List Aid).length+1 * i1) (a0.length) 0 ([]:List Aid) [0] hz1 ot wt sm ?_
 clear hz1
 intro i1 s1 hi1 hW1 hz1
 refine rS ?_
 refine AWP.cond rfl (fun hb => ?_) (fun hb => ?_)
 ·have hlt1:i1<a0.length:=ot
  rw[yj hlt1]at hz1;simp only[ynu]at hz1
  iterate 2 refine rS ?_
  exact⟨_,[4],hlt1,wt,hz1,sm⟩
 ·obtain rfl:i1=a0.length:=ot
  rw[yi (Nat.le_refl _)]at hz1;subst hz1;dsimp only at hR
  refine AWP.exit ?_;refine yd ?_
  refine rS ?_
  refine AWP.ret ?_
  subst hR
  exact es
end N155
def D_zt : DF
 | [x0]=>some (ownL 63 16 ygb (zt (rdL dAid x0)),false,[wL 16 eAid dAid x0,(rdL dAid x0).length<1099511627776,∀ v∈(rdL dAid x0),bdAid v,(rdL dAid x0).length≤1073741824])
 | _=>none
theorem yom:OkD Tryz.prog 155 D_zt:=by unfold D_zt;exact dk N155.den
end Go.Ab

namespace Go.Ab
open Go Go.Proofs
def yuw (a0:(List Aid)) (a1:Int) (i1:Nat) (s1:Unit):Except (Int) (Unit):=
 (bif (((a0.getD i1 default).Number) == a1)then .error (i1:Int)else .ok ())
def zq (a0:(List Aid)) (a1:Int):Int:=
 (match yh (yuw a0 a1) (a0.length-0) 0 ()with|.error e=>e|.ok s1=>(-1))
namespace N142
theorem DD:DOk Tryz.prog (Go.Ab.DD []):=ye _
theorem den (a0:(List Aid)) (a1:Int)  : Den Tryz.prog 142 [encL 16 eAid a0,.int .i64 a1] (.int .i64 (zq a0 a1)):=by
 generalize hR:zq a0 a1=r
 unfold zq at hR
 refine di Tryz.func142 Tryz.ntmps142 Tryz.results142 ?_
 intro c hL hc hk
 obtain⟨hL0,hL1,_⟩:=hL
 have hw0:a0.length<9223372036854775808:=Nat.lt_succ_of_le (yb hL0).1
 have hw1:∀ v∈a0,bwAid v:=fun v hv=>yt v ((yb hL0).2 v hv)
 clear hL0 hL1
 simp only[pars,Nat.zero_add]
 iterate 2 refine rS ?_
 refine AWP.block ?_
 generalize hz1:yh (yuw a0 a1) (a0.length-0) 0 ()=z1 at hR
 refine AWP.range (yuw a0 a1) (fun i1 s1=>⟨[(0,encL 16 eAid a0),(1,.int .i64 a1),(5,.int .i64 (i1:Int))],[]⟩) (fun i1 s1=>True) (a0.length) 0 () [] hz1 ot wt sm ?_
 clear hz1
 intro i1 s1 hi1 hW1 hz1
 refine rS ?_
 refine AWP.cond rfl (fun hb => ?_) (fun hb => ?_)
 ·have hlt1:i1<a0.length:=ot
  rw[yj hlt1]at hz1;simp only[yuw]at hz1
  refine rS ?_
  refine AWP.cond rfl (fun hb => ?_) (fun hb => ?_)
  ·simp only[hb,cond_true]at hz1
   refine rS ?_
   refine AWP.ret ?_
   subst hz1
   dsimp only at hR
   subst hR
   exact es
  ·simp only[hb,cond_false]at hz1
   refine rS ?_
   exact⟨_,[],hlt1,wt,hz1,sm⟩
 ·obtain rfl:i1=a0.length:=ot
  rw[yi (Nat.le_refl _)]at hz1;subst hz1;dsimp only at hR
  refine AWP.exit ?_;refine yd ?_
  refine rS ?_
  refine AWP.ret ?_
  subst hR
  exact es
end N142
def D_zq : DF
 | [x0,x1]=>some (.int .i64 (zq (rdL dAid x0) (rdI x1)),false,[wL 16 eAid dAid x0,wI .i64 x1])
 | _=>none
theorem ywv:OkD Tryz.prog 142 D_zq:=by unfold D_zq;exact dk N142.den
end Go.Ab

namespace Go.Ab
open Go Go.Proofs
theorem ydl (l:List Aid) (n:Int):(∃ j,j<l.length∧(l.getD j default).Number=n∧(∀ q,q<j→(l.getD q default).Number≠n)∧zq l n=(j:Int))∨((∀ q,q<l.length→(l.getD q default).Number≠n)∧zq l n = -1):=by
 unfold zq
 rcases y8b (b:=yuw l n) (fun j=>(l.getD j default).Number == n) (fun j=>(j:Int)) (k:=l.length-0) (i:=0) (s:=()) (fun j u _ _=>rfl)with⟨j,_,h2,h3,h4,h5⟩|⟨h1,h2⟩
 ·left
  rw[h5]
  exact⟨j,by omega,by simpa using h3,fun q hq=>by simpa using h4 q (Nat.zero_le _) hq,rfl⟩
 ·right
  rw[h2]
  exact⟨fun q hq=>by simpa using h1 q (Nat.zero_le _) (by omega),rfl⟩
theorem yew (l:List Aid) (n:Int) : -1≤zq l n∧zq l n<l.length:=by
 rcases ydl l n with⟨j,h1,_,_,h2⟩|⟨_,h2⟩<;>omega
end Go.Ab

namespace Go.Ab
open Go Go.Proofs
def yws (a0:(List Sector)) (a1:(List Sector)) (i1:Nat) (s1:Unit):Except (Bool) (Unit):=
 (bif (!(((a0.getD i1 default).From) == ((a1.getD i1 default).From) && (((a0.getD i1 default).To) == ((a1.getD i1 default).To) && ((a0.getD i1 default).Color) == ((a1.getD i1 default).Color))))then .error false else .ok ())
def zze (a0:(List Sector)) (a1:(List Sector)):Bool:=
 (bif ((a0.length:Int) != (a1.length:Int))then false else(match yh (yws a0 a1) (a0.length-0) 0 ()with|.error e=>e|.ok s1=>true))
namespace N170
theorem DD:DOk Tryz.prog (Go.Ab.DD []):=ye _
theorem den (a0:(List Sector)) (a1:(List Sector))  : Den Tryz.prog 170 [encL 3 eSector a0,encL 3 eSector a1] (.bool (zze a0 a1)):=by
 generalize hR:zze a0 a1=r
 unfold zze at hR
 refine di Tryz.func170 Tryz.ntmps170 Tryz.results170 ?_
 intro c hL hc hk
 obtain⟨hL0,hL1,_⟩:=hL
 have hw0:a0.length<9223372036854775808:=Nat.lt_succ_of_le (yb hL0).1
 have hw1:∀ v∈a0,bwSector v:=fun v hv=>yr v ((yb hL0).2 v hv)
 have hw2:a1.length<9223372036854775808:=Nat.lt_succ_of_le (yb hL1).1
 have hw3:∀ v∈a1,bwSector v:=fun v hv=>yr v ((yb hL1).2 v hv)
 clear hL0 hL1
 simp only[pars,Nat.zero_add]
 iterate 2 refine rS ?_
 refine AWP.cond rfl (fun hb => ?_) (fun hb => ?_)
 ·replace hR:=ct hR
  refine rS ?_
  refine AWP.ret ?_
  subst hR
  exact es
 ·replace hR:=cf hR
  refine rS ?_
  refine AWP.block ?_
  generalize hz1:yh (yws a0 a1) (a0.length-0) 0 ()=z1 at hR
  refine AWP.range (yws a0 a1) (fun i1 s1=>⟨[(0,encL 3 eSector a0),(1,encL 3 eSector a1),(5,.int .i64 (i1:Int))],[]⟩) (fun i1 s1=>True) (a0.length) 0 () [] hz1 ot wt sm ?_
  clear hz1
  intro i1 s1 hi1 hW1 hz1
  refine rS ?_
  refine AWP.cond rfl (fun hb => ?_) (fun hb => ?_)
  ·have hlt1:i1<a0.length:=ot
   rw[yj hlt1]at hz1;simp only[yws]at hz1
   refine rD 8 ?_
   refine AWP.cond rfl (fun hb => ?_) (fun hb => ?_)
   ·simp only[hb,cond_true]at hz1
    refine rS ?_
    refine AWP.ret ?_
    subst hz1
    dsimp only at hR
    subst hR
    exact es
   ·simp only[hb,cond_false]at hz1
    refine rS ?_
    exact⟨_,[],hlt1,wt,hz1,sm⟩
  ·obtain rfl:i1=a0.length:=ot
   rw[yi (Nat.le_refl _)]at hz1;subst hz1;dsimp only at hR
   refine AWP.exit ?_;refine yd ?_
   refine rS ?_
   refine AWP.ret ?_
   subst hR
   exact es
end N170
def D_zze : DF
 | [x0,x1]=>some (.bool (zze (rdL yn x0) (rdL yn x1)),false,[wL 3 eSector yn x0,wL 3 eSector yn x1])
 | _=>none
theorem yaz:OkD Tryz.prog 170 D_zze:=by unfold D_zze;exact dk N170.den
end Go.Ab

namespace Go.Ab
open Go Go.Proofs
def yjs (a0:(List Int)) (a1:(List Int)) (i1:Nat) (s1:Unit):Except (Bool) (Unit):=
 (bif ((a0.getD i1 default) != (a1.getD i1 default))then .error false else .ok ())
def zaf (a0:(List Int)) (a1:(List Int)):Bool:=
 (bif ((a0.length:Int) != (a1.length:Int))then false else(match yh (yjs a0 a1) (a0.length-0) 0 ()with|.error e=>e|.ok s1=>true))
namespace N206
theorem DD:DOk Tryz.prog (Go.Ab.DD []):=ye _
theorem den (a0:(List Int)) (a1:(List Int))  : Den Tryz.prog 206 [encL 1 yp a0,encL 1 yp a1] (.bool (zaf a0 a1)):=by
 generalize hR:zaf a0 a1=r
 unfold zaf at hR
 refine di Tryz.func206 Tryz.ntmps206 Tryz.results206 ?_
 intro c hL hc hk
 obtain⟨hL0,hL1,_⟩:=hL
 have hw0:a0.length<9223372036854775808:=Nat.lt_succ_of_le (yb hL0).1
 have hw1:a1.length<9223372036854775808:=Nat.lt_succ_of_le (yb hL1).1
 clear hL0 hL1
 simp only[pars,Nat.zero_add]
 iterate 2 refine rS ?_
 refine AWP.cond rfl (fun hb => ?_) (fun hb => ?_)
 ·replace hR:=ct hR
  refine rS ?_
  refine AWP.ret ?_
  subst hR
  exact es
 ·replace hR:=cf hR
  refine rS ?_
  refine AWP.block ?_
  generalize hz1:yh (yjs a0 a1) (a0.length-0) 0 ()=z1 at hR
  refine AWP.range (yjs a0 a1) (fun i1 s1=>⟨[(0,encL 1 yp a0),(1,encL 1 yp a1),(5,.int .i64 (i1:Int))],[]⟩) (fun i1 s1=>True) (a0.length) 0 () [] hz1 ot wt sm ?_
  clear hz1
  intro i1 s1 hi1 hW1 hz1
  refine rS ?_
  refine AWP.cond rfl (fun hb => ?_) (fun hb => ?_)
  ·have hlt1:i1<a0.length:=ot
   rw[yj hlt1]at hz1;simp only[yjs]at hz1
   refine rD 8 ?_
   refine AWP.cond rfl (fun hb => ?_) (fun hb => ?_)
   ·simp only[hb,cond_true]at hz1
    refine rS ?_
    refine AWP.ret ?_
    subst hz1
    dsimp only at hR
    subst hR
    exact es
   ·simp only[hb,cond_false]at hz1
    refine rS ?_
    exact⟨_,[],hlt1,wt,hz1,sm⟩
  ·obtain rfl:i1=a0.length:=ot
   rw[yi (Nat.le_refl _)]at hz1;subst hz1;dsimp only at hR
   refine AWP.exit ?_;refine yd ?_
   refine rS ?_
   refine AWP.ret ?_
   subst hR
   exact es
end N206
def D_zaf : DF
 | [x0,x1]=>some (.bool (zaf (rdL ylb x0) (rdL ylb x1)),false,[wL 1 yp ylb x0,wL 1 yp ylb x1])
 | _=>none
theorem yyz:OkD Tryz.prog 206 D_zaf:=by unfold D_zaf;exact dk N206.den
end Go.Ab

namespace Go.Ab
open Go Go.Proofs
def zlg (a0:Character) (a1:Character):Bool:=
 (((((a0.Kind == a1.Kind) && (zaf a0.Group a1.Group)) && (a0.Letter == a1.Letter)) && (a0.Colors == a1.Colors)) && (a0.Period == a1.Period))
namespace N169
theorem DD:DOk Tryz.prog (Go.Ab.DD [(206,dP D_zaf)]):=ya yyz.e <| ye _
theorem dn:type_of% (@D_zaf.eq_1):=by and_intros<;>intros<;>rfl
theorem den (a0:Character) (a1:Character)  : Den Tryz.prog 169 [.ep (eCharacter a0),.ep (eCharacter a1)] (.bool (zlg a0 a1)):=by
 generalize hR:zlg a0 a1=r
 unfold zlg at hR
 refine di Tryz.func169 Tryz.ntmps169 Tryz.results169 ?_
 intro c hL hc hk
 obtain⟨hL0,hL1,_⟩:=hL
 have hw0:bwCharacter a0:=yq a0 hL0
 have hw1:bwCharacter a1:=yq a1 hL1
 clear hL0 hL1
 simp only[pars,Nat.zero_add]
 refine rS ?_
 refine rD 53 ?_
 refine AWP.ret ?_
 subst hR
 exact es
end N169
def D_zlg : DF
 | [x0,x1]=>some (.bool (zlg (rdP yf x0) (rdP yf x1)),false,[wP eCharacter yf x0,wP eCharacter yf x1])
 | _=>none
theorem yb0:OkD Tryz.prog 169 D_zlg:=by unfold D_zlg;exact dk N169.den
end Go.Ab

namespace Go.Ab
open Go Go.Proofs
def zyf (a0:Aid) (a1:Aid):Bool:=
 ((((((((a0.Number == a1.Number) && (a0.Name == a1.Name)) && (a0.At.X == a1.At.X && a0.At.Y == a1.At.Y)) && (a0.Height == a1.Height)) && (a0.Mark.Kind == a1.Mark.Kind && (a0.Mark.Colors == a1.Mark.Colors && (a0.Mark.Shape == a1.Mark.Shape && a0.Mark.Topmark == a1.Mark.Topmark)))) && (zlg a0.Light a1.Light)) && (zze a0.Sectors a1.Sectors)) && (a0.Intensity == a1.Intensity))
namespace N105
theorem DD:DOk Tryz.prog (Go.Ab.DD [(169,dP D_zlg),(170,dP D_zze)]):=ya yb0.e <| ya yaz.e <| ye _
theorem dn:type_of% (And.intro @D_zlg.eq_1 <| @D_zze.eq_1):=by and_intros<;>intros<;>rfl
set_option maxHeartbeats 4000000 in
set_option maxRecDepth 20000 in
theorem den (a0:Aid) (a1:Aid)  : Den Tryz.prog 105 [.ep (eAid a0),.ep (eAid a1)] (.bool (zyf a0 a1)):=by
 generalize hR:zyf a0 a1=r
 unfold zyf at hR
 refine di Tryz.func105 Tryz.ntmps105 Tryz.results105 ?_
 intro c hL hc hk
 obtain⟨hL0,hL1,_⟩:=hL
 have hw0:bwAid a0:=yt a0 hL0
 have hw1:bwAid a1:=yt a1 hL1
 clear hL0 hL1
 simp only[pars,Nat.zero_add]
 refine rS ?_
 refine rD 84 ?_
 refine AWP.ret ?_
 subst hR
 exact es
end N105
def D_zyf : DF
 | [x0,x1]=>some (.bool (zyf (rdP dAid x0) (rdP dAid x1)),false,[wP eAid dAid x0,wP eAid dAid x1])
 | _=>none
theorem yb1:OkD Tryz.prog 105 D_zyf:=by unfold D_zyf;exact dk N105.den
end Go.Ab

namespace Go.Ab
open Go Go.Proofs
def znb (a0:Int):Bool:=
 (zd a0 0 99999)
namespace N70
theorem DD:DOk Tryz.prog (Go.Ab.DD [(137,dP D_zd)]):=ya y9d.e <| ye _
theorem dn:type_of% (@D_zd.eq_1):=by and_intros<;>intros<;>rfl
theorem ol:type_of% (@zd.eq_1):=@zd.eq_1
theorem den (a0:Int)  : Den Tryz.prog 70 [.int .i64 a0] (.bool (znb a0)):=by
 generalize hR:znb a0=r
 unfold znb at hR
 refine di Tryz.func70 Tryz.ntmps70 Tryz.results70 ?_
 intro c hL hc hk
 clear hL
 simp only[pars,Nat.zero_add]
 iterate 2 refine rS ?_
 refine AWP.ret ?_
 subst hR
 exact es
end N70
def D_znb : DF
 | [x0]=>some (.bool (znb (rdI x0)),false,[wI .i64 x0])
 | _=>none
theorem y8m:OkD Tryz.prog 70 D_znb:=by unfold D_znb;exact dk N70.den
end Go.Ab

namespace Go.Ab
open Go Go.Proofs
def y4o (a0:(List Notice)) (a1:Int) (a2:Int) (i1:Nat) (s1:Unit):Except (Bool) (Unit):=
 (bif (((((a0.getD i1 default).Kind) == 4) && (((a0.getD i1 default).Target) == a1)) && decide (((a0.getD i1 default).Day)≤a2))then .error true else .ok ())
def zsb (a0:(List Notice)) (a1:Int) (a2:Int):Bool:=
 (match yh (y4o a0 a1 a2) (a0.length-0) 0 ()with|.error e=>e|.ok s1=>false)
namespace N138
theorem DD:DOk Tryz.prog (Go.Ab.DD []):=ye _
theorem den (a0:(List Notice)) (a1:Int) (a2:Int)  : Den Tryz.prog 138 [encL 20 eNotice a0,.int .i64 a1,.int .i64 a2] (.bool (zsb a0 a1 a2)):=by
 generalize hR:zsb a0 a1 a2=r
 unfold zsb at hR
 refine di Tryz.func138 Tryz.ntmps138 Tryz.results138 ?_
 intro c hL hc hk
 obtain⟨hL0,hL1,hL2,_⟩:=hL
 have hw0:a0.length<9223372036854775808:=Nat.lt_succ_of_le (yb hL0).1
 have hw1:∀ v∈a0,bwNotice v:=fun v hv=>yg v ((yb hL0).2 v hv)
 clear hL0 hL1 hL2
 simp only[pars,Nat.zero_add]
 iterate 2 refine rS ?_
 refine AWP.block ?_
 generalize hz1:yh (y4o a0 a1 a2) (a0.length-0) 0 ()=z1 at hR
 refine AWP.range (y4o a0 a1 a2) (fun i1 s1=>⟨[(0,encL 20 eNotice a0),(1,.int .i64 a1),(2,.int .i64 a2),(7,.int .i64 (i1:Int))],[]⟩) (fun i1 s1=>True) (a0.length) 0 () [] hz1 ot wt sm ?_
 clear hz1
 intro i1 s1 hi1 hW1 hz1
 refine rS ?_
 refine AWP.cond rfl (fun hb => ?_) (fun hb => ?_)
 ·have hlt1:i1<a0.length:=ot
  rw[yj hlt1]at hz1;simp only[y4o]at hz1
  refine rS ?_
  refine AWP.cond rfl (fun hb => ?_) (fun hb => ?_)
  ·simp only[hb,cond_true]at hz1
   refine rS ?_
   refine AWP.ret ?_
   subst hz1
   dsimp only at hR
   subst hR
   exact es
  ·simp only[hb,cond_false]at hz1
   refine rS ?_
   exact⟨_,[],hlt1,wt,hz1,sm⟩
 ·obtain rfl:i1=a0.length:=ot
  rw[yi (Nat.le_refl _)]at hz1;subst hz1;dsimp only at hR
  refine AWP.exit ?_;refine yd ?_
  refine rS ?_
  refine AWP.ret ?_
  subst hR
  exact es
end N138
def D_zsb : DF
 | [x0,x1,x2]=>some (.bool (zsb (rdL yc x0) (rdI x1) (rdI x2)),false,[wL 20 eNotice yc x0,wI .i64 x1,wI .i64 x2])
 | _=>none
theorem y1r:OkD Tryz.prog 138 D_zsb:=by unfold D_zsb;exact dk N138.den
end Go.Ab

namespace Go.Ab
open Go Go.Proofs
def ysl (a0:(List Notice)) (a1:Notice) (i1:Nat) (s1:Unit):Except (Bool) (Unit):=
 (bif (((a0.getD i1 default).Number) == a1.Target)then .error ((((a0.getD i1 default).Kind) != 4) && (!(zsb a0 a1.Target 99999)))else .ok ())
def zgc (a0:(List Notice)) (a1:Notice):Bool:=
 (bif (a1.Kind != 4)then true else(match yh (ysl a0 a1) (a0.length-0) 0 ()with|.error e=>e|.ok s1=>false))
namespace N121
theorem DD:DOk Tryz.prog (Go.Ab.DD [(138,dP D_zsb)]):=ya y1r.e <| ye _
theorem dn:type_of% (@D_zsb.eq_1):=by and_intros<;>intros<;>rfl
theorem den (a0:(List Notice)) (a1:Notice)  : Den Tryz.prog 121 [encL 20 eNotice a0,.ep (eNotice a1)] (.bool (zgc a0 a1)):=by
 generalize hR:zgc a0 a1=r
 unfold zgc at hR
 refine di Tryz.func121 Tryz.ntmps121 Tryz.results121 ?_
 intro c hL hc hk
 obtain⟨hL0,hL1,_⟩:=hL
 have hw0:a0.length<9223372036854775808:=Nat.lt_succ_of_le (yb hL0).1
 have hw1:∀ v∈a0,bwNotice v:=fun v hv=>yg v ((yb hL0).2 v hv)
 have hw2:bwNotice a1:=yg a1 hL1
 clear hL0 hL1
 simp only[pars,Nat.zero_add]
 iterate 2 refine rS ?_
 refine AWP.cond rfl (fun hb => ?_) (fun hb => ?_)
 ·replace hR:=ct hR
  refine rS ?_
  refine AWP.ret ?_
  subst hR
  exact es
 ·replace hR:=cf hR
  refine rS ?_
  refine AWP.block ?_
  generalize hz1:yh (ysl a0 a1) (a0.length-0) 0 ()=z1 at hR
  refine AWP.range (ysl a0 a1) (fun i1 s1=>⟨[(0,encL 20 eNotice a0),(1,.ep (eNotice a1)),(5,.int .i64 (i1:Int))],[]⟩) (fun i1 s1=>True) (a0.length) 0 () [] hz1 ot wt sm ?_
  clear hz1
  intro i1 s1 hi1 hW1 hz1
  refine rS ?_
  refine AWP.cond rfl (fun hb => ?_) (fun hb => ?_)
  ·have hlt1:i1<a0.length:=ot
   rw[yj hlt1]at hz1;simp only[ysl]at hz1
   refine rD 9 ?_
   refine AWP.cond rfl (fun hb => ?_) (fun hb => ?_)
   ·simp only[hb,cond_true]at hz1
    refine rS ?_
    refine AWP.ret ?_
    subst hz1
    dsimp only at hR
    subst hR
    exact es
   ·simp only[hb,cond_false]at hz1
    refine rS ?_
    exact⟨_,[],hlt1,wt,hz1,sm⟩
  ·obtain rfl:i1=a0.length:=ot
   rw[yi (Nat.le_refl _)]at hz1;subst hz1;dsimp only at hR
   refine AWP.exit ?_;refine yd ?_
   refine rS ?_
   refine AWP.ret ?_
   subst hR
   exact es
end N121
def D_zgc : DF
 | [x0,x1]=>some (.bool (zgc (rdL yc x0) (rdP yc x1)),false,[wL 20 eNotice yc x0,wP eNotice yc x1])
 | _=>none
theorem y1s:OkD Tryz.prog 121 D_zgc:=by unfold D_zgc;exact dk N121.den
end Go.Ab

namespace Go.Ab
open Go Go.Proofs
def zmg (a0:(List Notice)) (a1:Int) (a2:Int):Bool:=
 ((decide (((a0.getD ((a1).toNat) default).Day)≤a2) && (((a0.getD ((a1).toNat) default).Kind) != 4)) && (!(zsb a0 ((a0.getD ((a1).toNat) default).Number) a2)))
namespace N71
theorem DD:DOk Tryz.prog (Go.Ab.DD [(138,dP D_zsb)]):=ya y1r.e <| ye _
theorem dn:type_of% (@D_zsb.eq_1):=by and_intros<;>intros<;>rfl
theorem den (a0:(List Notice)) (a1:Int) (a2:Int) (hp0:0≤a1) (hp1:a1<a0.length):Den Tryz.prog 71 [encL 20 eNotice a0,.int .i64 a1,.int .i64 a2] (.bool (zmg a0 a1 a2)):=by
 generalize hR:zmg a0 a1 a2=r
 unfold zmg at hR
 refine di Tryz.func71 Tryz.ntmps71 Tryz.results71 ?_
 intro c hL hc hk
 obtain⟨hL0,hL1,hL2,_⟩:=hL
 have hw0:a0.length<9223372036854775808:=Nat.lt_succ_of_le (yb hL0).1
 have hw1:∀ v∈a0,bwNotice v:=fun v hv=>yg v ((yb hL0).2 v hv)
 clear hL0 hL1 hL2
 simp only[pars,Nat.zero_add]
 iterate 2 refine rS ?_
 refine AWP.ret ?_
 subst hR
 exact es
end N71
def D_zmg : DF
 | [x0,x1,x2]=>some (.bool (zmg (rdL yc x0) (rdI x1) (rdI x2)),false,[wL 20 eNotice yc x0,wI .i64 x1,wI .i64 x2,0≤(rdI x1),(rdI x1)<(rdL yc x0).length])
 | _=>none
theorem y5y:OkD Tryz.prog 71 D_zmg:=by unfold D_zmg;exact dk N71.den
end Go.Ab
