/- A part of a proof: walks of functions and lemmas of our own. No conditions. -/
import Derived.Test.YthadgghdkkapaaaGreatDoorNAl
import Derived.Test.YthadgghdkkapaaaGreatDoorNAr
set_option linter.unusedSectionVars false
set_option linter.unusedVariables false
set_option linter.unusedSimpArgs false
set_option maxHeartbeats 1000000
namespace Go.Ab
open Go Go.Proofs
def zv (a0:Int):(List (List UInt8)):=
 (bif (a0 == 1)then[[99,97,110],[112,105,108,108,97,114],[115,112,97,114]]else(bif (a0 == 2)then[[99,111,110,101],[112,105,108,108,97,114],[115,112,97,114]]else(bif (a0 == 8)then[[115,112,104,101,114,101],[112,105,108,108,97,114],[115,112,97,114]]else(bif (a0 == 9)then[[99,97,110],[99,111,110,101],[112,105,108,108,97,114],[115,112,97,114],[115,112,104,101,114,101]]else[[112,105,108,108,97,114],[115,112,97,114]]))))
namespace N54
theorem DD:DOk Tryz.prog (Go.Ab.DD []):=ye _
theorem lx {p:Prop} (h:p:=by(exact lxx);first|done|fail):p:=h
theorem den (a0:Int)  : Den Tryz.prog 54 [.int .i64 a0] (ownL 9 1 eS (zv a0)):=by
 generalize hR:zv a0=r;unfold zv at hR;refine di Tryz.func54 Tryz.ntmps54 Tryz.results54 ?_;intro c hL hc hk;clear hL;simp only[pars,Nat.zero_add];iterate 3 refine rS ?_
 refine AWP.cond rfl (fun hb => ?_) (fun hb => ?_)
 ·replace hR:=ct hR
  refine rS ?_;refine AWP.ret ?_;subst hR;exact es
 ·replace hR:=cf hR
  refine rS ?_;refine AWP.cond rfl (fun hb => ?_) (fun hb => ?_)
  ·replace hR:=ct hR
   refine rS ?_;refine AWP.ret ?_;subst hR;exact es
  ·replace hR:=cf hR
   refine rS ?_;refine AWP.cond rfl (fun hb => ?_) (fun hb => ?_)
   ·replace hR:=ct hR
    refine rS ?_;refine AWP.ret ?_;subst hR;exact es
   ·replace hR:=cf hR
    refine rS ?_;refine AWP.cond rfl (fun hb => ?_) (fun hb => ?_)
    ·replace hR:=ct hR
     refine rS ?_;refine AWP.ret ?_;subst hR;exact es
    ·replace hR:=cf hR
     refine rS ?_;refine AWP.ret ?_;subst hR;exact es
end N54
def D_zv : DF
 | [x0]=>some (ownL 9 1 eS (zv (rdI x0)),false,[wI .i64 x0])
 | _=>none
def Dz_zv : DF
 | [x0]=>some (ownL 9 1 eS (zv (rdI x0)),true,[wI .i64 x0])
 | _=>none
theorem yav:OkD Tryz.prog 54 D_zv:=by unfold D_zv;exact dk N54.den
theorem y8v:OkD Tryz.prog 54 Dz_zv:=by unfold Dz_zv;exact dk N54.den
def zvc (a0:Int):(List UInt8):=
 (([[],[99,97,110],[99,111,110,101],[117,112],[98,97,115,101],[100,111,119,110],[112,111,105,110,116],[98,97,108,108,115],[98,97,108,108],[99,114,111,115,115]]:List (List UInt8)).getD ((a0).toNat) default)
namespace N55
theorem DD:DOk Tryz.prog (Go.Ab.DD []):=ye _
theorem lx {p:Prop} (h:p:=by(exact lxx);first|done|fail):p:=h
theorem den (a0:Int) (hp0:0<=a0) (hp1:a0<=9):Den Tryz.prog 55 [.int .i64 a0] (.str (zvc a0)):=by
 generalize hR:zvc a0=r;unfold zvc at hR;refine di Tryz.func55 Tryz.ntmps55 Tryz.results55 ?_;intro c hL hc hk;clear hL;simp only[pars,Nat.zero_add];iterate 2 refine rS ?_
 refine AWP.ret ?_;subst hR;exact es
end N55
def D_zvc : DF
 | [x0]=>some (.str (zvc (rdI x0)),false,[wI .i64 x0,0<=(rdI x0),(rdI x0)<=9])
 | _=>none
theorem ybl:OkD Tryz.prog 55 D_zvc:=by unfold D_zvc;exact dk N55.den
def ywh (a0:Mark) (i1:Nat) (s1:Unit):Except (Bool) (Unit):=
 (bif (((zv a0.Kind).getD i1 default) == a0.Shape)then .error true else .ok ())
def zwc (a0:Mark):Bool:=
 (bif (a0.Kind == 0)then(a0.Kind == 0 && (a0.Colors == [] && (a0.Shape == [] && a0.Topmark == [])))else(bif (((!(znb a0.Kind)) || (a0.Colors != (zuc a0.Kind))) || ((a0.Topmark != []) && (a0.Topmark != (zvc a0.Kind))))then false else(match yh (ywh a0) (((zv a0.Kind).length)-0) 0 ()with|.error e=>e|.ok s1=>false)))
namespace N168
theorem DD:DOk Tryz.prog (Go.Ab.DD [(52,dP D_znb),(53,dP D_zuc),(54,dP D_zv),(55,dP D_zvc)]):=ya yok.e <| ya y6k.e <| ya yav.e <| ya ybl.e <| ye _
theorem dn:type_of% (And.intro @D_znb.eq_1 <| And.intro @D_zuc.eq_1 <| And.intro @D_zv.eq_1 <| @D_zvc.eq_1):=by and_intros<;>intros<;>rfl
theorem o0 {p:Prop} (h:p:=by(first|(simp only[znb,zf];refine⟨fun h => ?_,fun h _ => ?_⟩<;>(simp at h;omega)));first|done|fail):p:=h
theorem den (a0:Mark)  : Den Tryz.prog 168 [.ep (y1g a0)] (.bool (zwc a0)):=by
 generalize hR:zwc a0=r;unfold zwc at hR;refine di Tryz.func168 Tryz.ntmps168 Tryz.results168 ?_;intro c hL hc hk;obtain⟨hL0,_⟩:=hL;have hw0:bwMark a0:=ybi a0 hL0;clear hL0;simp only[pars,Nat.zero_add];have hs5:(zv a0.Kind).length<=5:=by unfold zv;simp only[Bool.cond_eq_ite];(repeat' split)<;>simp
 iterate 2 refine rS ?_
 refine AWP.cond rfl (fun hb => ?_) (fun hb => ?_)
 ·replace hR:=ct hR
  refine rS ?_;refine AWP.ret ?_;subst hR;exact es
 ·replace hR:=cf hR
  refine rD 37 ?_;refine AWP.cond rfl (fun hb => ?_) (fun hb => ?_)
  ·replace hR:=ct hR
   refine rS ?_;refine AWP.ret ?_;subst hR;exact es
  ·replace hR:=cf hR
   iterate 2 refine rS ?_
   refine AWP.block ?_;generalize hz1:yh (ywh a0) (((zv a0.Kind).length)-0) 0 ()=z1 at hR;refine AWP.range (ywh a0) (fun i1 s1=>⟨[(0,.ep (y1g a0)),(3,.ref 0 1 0 ((zv a0.Kind).length)),(4,.int .i64 (i1:Int))],[.arr 9 1 (zv a0.Kind).length (fun j=>eS ((zv a0.Kind).getD j default))]⟩) (fun i1 s1=>True) (((zv a0.Kind).length)) 0 () [0] hz1 ot wt sm ?_;clear hz1;intro i1 s1 hi1 hW1 hz1;refine rS ?_;refine AWP.cond rfl (fun hb => ?_) (fun hb => ?_)
   ·have hlt1:i1<((zv a0.Kind).length):=ot
    rw[yp hlt1]at hz1;simp only[ywh]at hz1;refine rD 8 ?_;refine AWP.cond rfl (fun hb => ?_) (fun hb => ?_)
    ·simp only[hb,cond_true]at hz1
     refine rS ?_;refine AWP.ret ?_;subst hz1;dsimp only at hR;subst hR;exact es
    ·simp only[hb,cond_false]at hz1
     refine rS ?_;exact⟨_,[0],hlt1,wt,hz1,sm⟩
   ·obtain rfl:i1=((zv a0.Kind).length):=ot
    rw[yn (Nat.le_refl _)]at hz1;subst hz1;dsimp only at hR;refine AWP.exit ?_;refine yd ?_;refine rS ?_;refine AWP.ret ?_;subst hR;exact es
end N168
def D_zwc : DF
 | [x0]=>some (.bool (zwc (rdP ytk x0)),false,[wP y1g ytk x0])
 | _=>none
theorem yhx:OkD Tryz.prog 168 D_zwc:=by unfold D_zwc;exact dk N168.den
def znc (a0:Mark):Bool:=
 (zwc a0)
namespace N118
theorem DD:DOk Tryz.prog (Go.Ab.DD [(168,dP D_zwc)]):=ya yhx.e <| ye _
theorem dn:type_of% (@D_zwc.eq_1):=by and_intros<;>intros<;>rfl
theorem den (a0:Mark)  : Den Tryz.prog 118 [.agg (y1g a0)] (.bool (znc a0)):=by
 generalize hR:znc a0=r;unfold znc at hR;refine di Tryz.func118 Tryz.ntmps118 Tryz.results118 ?_;intro c hL hc hk;obtain⟨hL0,_⟩:=hL;have hw0:bwMark a0:=ybi a0 hL0;clear hL0;simp only[pars,Nat.zero_add];iterate 2 refine rS ?_
 refine AWP.ret ?_;subst hR;exact es
end N118
def D_znc : DF
 | [x0]=>some (.bool (znc (rdG ytk x0)),false,[wG y1g ytk x0])
 | _=>none
theorem yzv:OkD Tryz.prog 118 D_znc:=by unfold D_znc;exact dk N118.den
def znd (a0:Point):Bool:=
 ((zf a0.X 0 200000) && (zf a0.Y 0 200000))
namespace N117
theorem DD:DOk Tryz.prog (Go.Ab.DD [(81,dP D_zf)]):=ya yyd.e <| ye _
theorem dn:type_of% (@D_zf.eq_1):=by and_intros<;>intros<;>rfl
theorem ol:type_of% (@zf.eq_1):=@zf.eq_1
theorem den (a0:Point)  : Den Tryz.prog 117 [.agg (ylg a0)] (.bool (znd a0)):=by
 generalize hR:znd a0=r;unfold znd at hR;refine di Tryz.func117 Tryz.ntmps117 Tryz.results117 ?_;intro c hL hc hk;clear hL;simp only[pars,Nat.zero_add];iterate 2 refine rS ?_
 refine AWP.ret ?_;subst hR;exact es
end N117
def D_znd : DF
 | [x0]=>some (.bool (znd (rdG yhf x0)),false,[wG ylg yhf x0])
 | _=>none
theorem yjx:OkD Tryz.prog 117 D_znd:=by unfold D_znd;exact dk N117.den
def zxc (a0:Character):Bool:=
 (((((a0.Kind == 0) && ((a0.Group.length:Int) == 0)) && (a0.Letter == [])) && (a0.Colors == [])) && (a0.Period == 0))
namespace N119
theorem DD:DOk Tryz.prog (Go.Ab.DD []):=ye _
theorem den (a0:Character)  : Den Tryz.prog 119 [.ep (yl a0)] (.bool (zxc a0)):=by
 generalize hR:zxc a0=r;unfold zxc at hR;refine di Tryz.func119 Tryz.ntmps119 Tryz.results119 ?_;intro c hL hc hk;obtain⟨hL0,_⟩:=hL;have hw0:bwCharacter a0:=yw a0 hL0;clear hL0;simp only[pars,Nat.zero_add];iterate 2 refine rS ?_
 refine AWP.ret ?_;subst hR;exact es
end N119
def D_zxc : DF
 | [x0]=>some (.bool (zxc (rdP yg x0)),false,[wP yl yg x0])
 | _=>none
theorem y0v:OkD Tryz.prog 119 D_zxc:=by unfold D_zxc;exact dk N119.den
def zuf (a0:(List Int)):(List Int):=
 ([]:List Int)++a0
namespace N284
theorem DD:DOk Tryz.prog (Go.Ab.DD []):=ye _
theorem den (a0:(List Int)) (hb0:a0.length<1099511627776):Den Tryz.prog 284 [encL 1 yu a0] (ownL 2 1 yu (zuf a0)):=by
 generalize hR:zuf a0=r;unfold zuf at hR;refine di Tryz.func284 Tryz.ntmps284 Tryz.results284 ?_;intro c hL hc hk;obtain⟨hL0,_⟩:=hL;have hw0:a0.length<9223372036854775808:=Nat.lt_succ_of_le (yb hL0).1;clear hL0;simp only[pars,Nat.zero_add];iterate 2 refine rS ?_
 refine AWP.ret ?_;subst hR;exact es
end N284
def D_zuf : DF
 | [x0]=>some (ownL 2 1 yu (zuf (rdL yhb x0)),false,[wL 1 yu yhb x0,(rdL yhb x0).length<1099511627776])
 | _=>none
theorem yyw:OkD Tryz.prog 284 D_zuf:=by unfold D_zuf;exact dk N284.den
def zvf (a0:Character):Character:=
 { Kind:=a0.Kind,Group:=(zuf a0.Group),Letter:=a0.Letter,Colors:=a0.Colors,Period:=a0.Period:Character }
namespace N251
theorem DD:DOk Tryz.prog (Go.Ab.DD [(284,dP D_zuf)]):=ya yyw.e <| ye _
theorem dn:type_of% (@D_zuf.eq_1):=by and_intros<;>intros<;>rfl
theorem den (a0:Character) (hb0:bdCharacter a0):Den Tryz.prog 251 [.ep (yl a0)] (.agg (yjc (zvf a0))):=by
 generalize hR:zvf a0=r;unfold zvf at hR;refine di Tryz.func251 Tryz.ntmps251 Tryz.results251 ?_;intro c hL hc hk;obtain⟨hL0,_⟩:=hL;have hw0:bwCharacter a0:=yw a0 hL0;clear hL0;simp only[pars,Nat.zero_add];iterate 4 refine rS ?_
 refine AWP.ret ?_;subst hR;exact es
end N251
def D_zvf : DF
 | [x0]=>some (.agg (yjc (zvf (rdP yg x0))),false,[wP yl yg x0,bdCharacter (rdP yg x0)])
 | _=>none
theorem yty:OkD Tryz.prog 251 D_zvf:=by unfold D_zvf;exact dk N251.den
def zfd (a0:Aid):Aid:=
 { Number:=a0.Number,Name:=a0.Name,At:=a0.At,Height:=a0.Height,Mark:=a0.Mark,Light:=zvf a0.Light,Sectors:=([]:List Sector)++a0.Sectors,Intensity:=a0.Intensity:Aid }
namespace N198
theorem DD:DOk Tryz.prog (Go.Ab.DD [(251,dP D_zvf)]):=ya yty.e <| ye _
theorem dn:type_of% (@D_zvf.eq_1):=by and_intros<;>intros<;>rfl
theorem den (a0:Aid) (hb0:bdAid a0):Den Tryz.prog 198 [.ep (eAid a0)] (.agg (ynb (zfd a0))):=by
 generalize hR:zfd a0=r;unfold zfd at hR;refine di Tryz.func198 Tryz.ntmps198 Tryz.results198 ?_;intro c hL hc hk;obtain⟨hL0,_⟩:=hL;have hw0:bwAid a0:=yy a0 hL0;clear hL0;simp only[pars,Nat.zero_add];iterate 5 refine rS ?_
 refine AWP.ret ?_;subst hR;exact es
end N198
def D_zfd : DF
 | [x0]=>some (.agg (ynb (zfd (rdP dAid x0))),false,[wP eAid dAid x0,bdAid (rdP dAid x0)])
 | _=>none
theorem yvk:OkD Tryz.prog 198 D_zfd:=by unfold D_zfd;exact dk N198.den
def yjj (a0:(List Aid)) (i1:Nat) (s1:List Aid):Except ((List Aid)) (List Aid):=
 .ok (s1++[zfd (a0.getD i1 default)])
def zgd (a0:(List Aid)):(List Aid):=
 (match yh (yjj a0) (a0.length-0) 0 ([]:List Aid)with|.error e=>e|.ok s1=>s1)
namespace N197
theorem DD:DOk Tryz.prog (Go.Ab.DD [(198,dP D_zfd)]):=ya yvk.e <| ye _
theorem dn:type_of% (@D_zfd.eq_1):=by and_intros<;>intros<;>rfl
theorem den (a0:(List Aid)) (hb0:a0.length<1099511627776) (hb1:∀ v∈a0,bdAid v) (hp0:a0.length<=1073741824):Den Tryz.prog 197 [encL 16 eAid a0] (ownL 45 16 ynb (zgd a0)):=by
 generalize hR:zgd a0=r;unfold zgd at hR;refine di Tryz.func197 Tryz.ntmps197 Tryz.results197 ?_;intro c hL hc hk;obtain⟨hL0,_⟩:=hL;have hw0:a0.length<9223372036854775808:=Nat.lt_succ_of_le (yb hL0).1;have hw1:∀ v∈a0,bwAid v:=fun v hv=>yy v ((yb hL0).2 v hv)
 clear hL0;simp only[pars,Nat.zero_add];iterate 3 refine rS ?_
 refine AWP.block ?_;generalize hz1:yh (yjj a0) (a0.length-0) 0 ([]:List Aid)=z1 at hR;refine AWP.range (yjj a0) (fun i1 s1=>⟨[(0,encL 16 eAid a0),(3,.ref 0 16 0 s1.length),(4,.int .i64 (i1:Int))],[.arr 45 16 s1.length (fun j=>ynb (s1.getD j default))]⟩) (fun i1 s1=>s1.length<=([]:List Aid).length+1 * i1) (a0.length) 0 ([]:List Aid) [0] hz1 ot wt sm ?_;clear hz1;intro i1 s1 hi1 hW1 hz1;refine rS ?_;refine AWP.cond rfl (fun hb => ?_) (fun hb => ?_)
 ·have hlt1:i1<a0.length:=ot
  rw[yp hlt1]at hz1;simp only[yjj]at hz1;iterate 2 refine rS ?_
  exact⟨_,[4],hlt1,wt,hz1,sm⟩
 ·obtain rfl:i1=a0.length:=ot
  rw[yn (Nat.le_refl _)]at hz1;subst hz1;dsimp only at hR;refine AWP.exit ?_;refine yd ?_;refine rS ?_;refine AWP.ret ?_;subst hR;exact es
end N197
def D_zgd : DF
 | [x0]=>some (ownL 45 16 ynb (zgd (rdL dAid x0)),false,[wL 16 eAid dAid x0,(rdL dAid x0).length<1099511627776,∀ v∈(rdL dAid x0),bdAid v,(rdL dAid x0).length<=1073741824])
 | _=>none
theorem ygw:OkD Tryz.prog 197 D_zgd:=by unfold D_zgd;exact dk N197.den
def ymp (a0:(List Sector)) (a1:(List Sector)) (i1:Nat) (s1:Unit):Except (Bool) (Unit):=
 (bif (!(((a0.getD i1 default).From) == ((a1.getD i1 default).From) && (((a0.getD i1 default).To) == ((a1.getD i1 default).To) && ((a0.getD i1 default).Color) == ((a1.getD i1 default).Color))))then .error false else .ok ())
def zle (a0:(List Sector)) (a1:(List Sector)):Bool:=
 (bif ((a0.length:Int) != (a1.length:Int))then false else(match yh (ymp a0 a1) (a0.length-0) 0 ()with|.error e=>e|.ok s1=>true))
namespace N146
theorem DD:DOk Tryz.prog (Go.Ab.DD []):=ye _
theorem den (a0:(List Sector)) (a1:(List Sector))  : Den Tryz.prog 146 [encL 3 yq a0,encL 3 yq a1] (.bool (zle a0 a1)):=by
 generalize hR:zle a0 a1=r;unfold zle at hR;refine di Tryz.func146 Tryz.ntmps146 Tryz.results146 ?_;intro c hL hc hk;obtain⟨hL0,hL1,_⟩:=hL;have hw0:a0.length<9223372036854775808:=Nat.lt_succ_of_le (yb hL0).1;have hw1:∀ v∈a0,bwSector v:=fun v hv=>y7 v ((yb hL0).2 v hv)
 have hw2:a1.length<9223372036854775808:=Nat.lt_succ_of_le (yb hL1).1;have hw3:∀ v∈a1,bwSector v:=fun v hv=>y7 v ((yb hL1).2 v hv)
 clear hL0 hL1;simp only[pars,Nat.zero_add];iterate 2 refine rS ?_
 refine AWP.cond rfl (fun hb => ?_) (fun hb => ?_)
 ·replace hR:=ct hR
  refine rS ?_;refine AWP.ret ?_;subst hR;exact es
 ·replace hR:=cf hR
  refine rS ?_;refine AWP.block ?_;generalize hz1:yh (ymp a0 a1) (a0.length-0) 0 ()=z1 at hR;refine AWP.range (ymp a0 a1) (fun i1 s1=>⟨[(0,encL 3 yq a0),(1,encL 3 yq a1),(5,.int .i64 (i1:Int))],[]⟩) (fun i1 s1=>True) (a0.length) 0 () [] hz1 ot wt sm ?_;clear hz1;intro i1 s1 hi1 hW1 hz1;refine rS ?_;refine AWP.cond rfl (fun hb => ?_) (fun hb => ?_)
  ·have hlt1:i1<a0.length:=ot
   rw[yp hlt1]at hz1;simp only[ymp]at hz1;refine rD 8 ?_;refine AWP.cond rfl (fun hb => ?_) (fun hb => ?_)
   ·simp only[hb,cond_true]at hz1
    refine rS ?_;refine AWP.ret ?_;subst hz1;dsimp only at hR;subst hR;exact es
   ·simp only[hb,cond_false]at hz1
    refine rS ?_;exact⟨_,[],hlt1,wt,hz1,sm⟩
  ·obtain rfl:i1=a0.length:=ot
   rw[yn (Nat.le_refl _)]at hz1;subst hz1;dsimp only at hR;refine AWP.exit ?_;refine yd ?_;refine rS ?_;refine AWP.ret ?_;subst hR;exact es
end N146
def D_zle : DF
 | [x0,x1]=>some (.bool (zle (rdL yx x0) (rdL yx x1)),false,[wL 3 yq yx x0,wL 3 yq yx x1])
 | _=>none
theorem ymy:OkD Tryz.prog 146 D_zle:=by unfold D_zle;exact dk N146.den
def y1p (a0:(List Int)) (a1:(List Int)) (i1:Nat) (s1:Unit):Except (Bool) (Unit):=
 (bif ((a0.getD i1 default) != (a1.getD i1 default))then .error false else .ok ())
def zme (a0:(List Int)) (a1:(List Int)):Bool:=
 (bif ((a0.length:Int) != (a1.length:Int))then false else(match yh (y1p a0 a1) (a0.length-0) 0 ()with|.error e=>e|.ok s1=>true))
namespace N213
theorem DD:DOk Tryz.prog (Go.Ab.DD []):=ye _
theorem den (a0:(List Int)) (a1:(List Int))  : Den Tryz.prog 213 [encL 1 yu a0,encL 1 yu a1] (.bool (zme a0 a1)):=by
 generalize hR:zme a0 a1=r;unfold zme at hR;refine di Tryz.func213 Tryz.ntmps213 Tryz.results213 ?_;intro c hL hc hk;obtain⟨hL0,hL1,_⟩:=hL;have hw0:a0.length<9223372036854775808:=Nat.lt_succ_of_le (yb hL0).1;have hw1:a1.length<9223372036854775808:=Nat.lt_succ_of_le (yb hL1).1;clear hL0 hL1;simp only[pars,Nat.zero_add];iterate 2 refine rS ?_
 refine AWP.cond rfl (fun hb => ?_) (fun hb => ?_)
 ·replace hR:=ct hR
  refine rS ?_;refine AWP.ret ?_;subst hR;exact es
 ·replace hR:=cf hR
  refine rS ?_;refine AWP.block ?_;generalize hz1:yh (y1p a0 a1) (a0.length-0) 0 ()=z1 at hR;refine AWP.range (y1p a0 a1) (fun i1 s1=>⟨[(0,encL 1 yu a0),(1,encL 1 yu a1),(5,.int .i64 (i1:Int))],[]⟩) (fun i1 s1=>True) (a0.length) 0 () [] hz1 ot wt sm ?_;clear hz1;intro i1 s1 hi1 hW1 hz1;refine rS ?_;refine AWP.cond rfl (fun hb => ?_) (fun hb => ?_)
  ·have hlt1:i1<a0.length:=ot
   rw[yp hlt1]at hz1;simp only[y1p]at hz1;refine rD 8 ?_;refine AWP.cond rfl (fun hb => ?_) (fun hb => ?_)
   ·simp only[hb,cond_true]at hz1
    refine rS ?_;refine AWP.ret ?_;subst hz1;dsimp only at hR;subst hR;exact es
   ·simp only[hb,cond_false]at hz1
    refine rS ?_;exact⟨_,[],hlt1,wt,hz1,sm⟩
  ·obtain rfl:i1=a0.length:=ot
   rw[yn (Nat.le_refl _)]at hz1;subst hz1;dsimp only at hR;refine AWP.exit ?_;refine yd ?_;refine rS ?_;refine AWP.ret ?_;subst hR;exact es
end N213
def D_zme : DF
 | [x0,x1]=>some (.bool (zme (rdL yhb x0) (rdL yhb x1)),false,[wL 1 yu yhb x0,wL 1 yu yhb x1])
 | _=>none
theorem yrx:OkD Tryz.prog 213 D_zme:=by unfold D_zme;exact dk N213.den
def zjf (a0:Character) (a1:Character):Bool:=
 (((((a0.Kind == a1.Kind) && (zme a0.Group a1.Group)) && (a0.Letter == a1.Letter)) && (a0.Colors == a1.Colors)) && (a0.Period == a1.Period))
namespace N145
theorem DD:DOk Tryz.prog (Go.Ab.DD [(213,dP D_zme)]):=ya yrx.e <| ye _
theorem dn:type_of% (@D_zme.eq_1):=by and_intros<;>intros<;>rfl
theorem den (a0:Character) (a1:Character)  : Den Tryz.prog 145 [.ep (yl a0),.ep (yl a1)] (.bool (zjf a0 a1)):=by
 generalize hR:zjf a0 a1=r;unfold zjf at hR;refine di Tryz.func145 Tryz.ntmps145 Tryz.results145 ?_;intro c hL hc hk;obtain⟨hL0,hL1,_⟩:=hL;have hw0:bwCharacter a0:=yw a0 hL0;have hw1:bwCharacter a1:=yw a1 hL1;clear hL0 hL1;simp only[pars,Nat.zero_add];refine rS ?_;refine rD 53 ?_;refine AWP.ret ?_;subst hR;exact es
end N145
def D_zjf : DF
 | [x0,x1]=>some (.bool (zjf (rdP yg x0) (rdP yg x1)),false,[wP yl yg x0,wP yl yg x1])
 | _=>none
theorem ytv:OkD Tryz.prog 145 D_zjf:=by unfold D_zjf;exact dk N145.den
def zxd (a0:Aid) (a1:Aid):Bool:=
 ((((((((a0.Number == a1.Number) && (a0.Name == a1.Name)) && (a0.At.X == a1.At.X && a0.At.Y == a1.At.Y)) && (a0.Height == a1.Height)) && (a0.Mark.Kind == a1.Mark.Kind && (a0.Mark.Colors == a1.Mark.Colors && (a0.Mark.Shape == a1.Mark.Shape && a0.Mark.Topmark == a1.Mark.Topmark)))) && (zjf a0.Light a1.Light)) && (zle a0.Sectors a1.Sectors)) && (a0.Intensity == a1.Intensity))
namespace N93
theorem DD:DOk Tryz.prog (Go.Ab.DD [(145,dP D_zjf),(146,dP D_zle)]):=ya ytv.e <| ya ymy.e <| ye _
theorem dn:type_of% (And.intro @D_zjf.eq_1 <| @D_zle.eq_1):=by and_intros<;>intros<;>rfl
set_option maxHeartbeats 4000000 in
set_option maxRecDepth 20000 in
theorem den (a0:Aid) (a1:Aid)  : Den Tryz.prog 93 [.ep (eAid a0),.ep (eAid a1)] (.bool (zxd a0 a1)):=by
 generalize hR:zxd a0 a1=r;unfold zxd at hR;refine di Tryz.func93 Tryz.ntmps93 Tryz.results93 ?_;intro c hL hc hk;obtain⟨hL0,hL1,_⟩:=hL;have hw0:bwAid a0:=yy a0 hL0;have hw1:bwAid a1:=yy a1 hL1;clear hL0 hL1;simp only[pars,Nat.zero_add];refine rS ?_;refine rD 84 ?_;refine AWP.ret ?_;subst hR;exact es
end N93
def D_zxd : DF
 | [x0,x1]=>some (.bool (zxd (rdP dAid x0) (rdP dAid x1)),false,[wP eAid dAid x0,wP eAid dAid x1])
 | _=>none
theorem yjq:OkD Tryz.prog 93 D_zxd:=by unfold D_zxd;exact dk N93.den
def zse (a0:Int):Bool:=
 (zf a0 0 99999)
namespace N252
theorem DD:DOk Tryz.prog (Go.Ab.DD [(81,dP D_zf)]):=ya yyd.e <| ye _
theorem dn:type_of% (@D_zf.eq_1):=by and_intros<;>intros<;>rfl
theorem ol:type_of% (@zf.eq_1):=@zf.eq_1
theorem den (a0:Int)  : Den Tryz.prog 252 [.int .i64 a0] (.bool (zse a0)):=by
 generalize hR:zse a0=r;unfold zse at hR;refine di Tryz.func252 Tryz.ntmps252 Tryz.results252 ?_;intro c hL hc hk;clear hL;simp only[pars,Nat.zero_add];iterate 2 refine rS ?_
 refine AWP.ret ?_;subst hR;exact es
end N252
def D_zse : DF
 | [x0]=>some (.bool (zse (rdI x0)),false,[wI .i64 x0])
 | _=>none
theorem ywv:OkD Tryz.prog 252 D_zse:=by unfold D_zse;exact dk N252.den
def y5n (a0:(List Notice)) (a1:Int) (a2:Int) (i1:Nat) (s1:Unit):Except (Bool) (Unit):=
 (bif (((((a0.getD i1 default).Kind) == 4) && (((a0.getD i1 default).Target) == a1)) && decide (((a0.getD i1 default).Day)<=a2))then .error true else .ok ())
def zkc (a0:(List Notice)) (a1:Int) (a2:Int):Bool:=
 (match yh (y5n a0 a1 a2) (a0.length-0) 0 ()with|.error e=>e|.ok s1=>false)
namespace N253
theorem DD:DOk Tryz.prog (Go.Ab.DD []):=ye _
theorem den (a0:(List Notice)) (a1:Int) (a2:Int)  : Den Tryz.prog 253 [encL 20 yf a0,.int .i64 a1,.int .i64 a2] (.bool (zkc a0 a1 a2)):=by
 generalize hR:zkc a0 a1 a2=r;unfold zkc at hR;refine di Tryz.func253 Tryz.ntmps253 Tryz.results253 ?_;intro c hL hc hk;obtain⟨hL0,hL1,hL2,_⟩:=hL;have hw0:a0.length<9223372036854775808:=Nat.lt_succ_of_le (yb hL0).1;have hw1:∀ v∈a0,bwNotice v:=fun v hv=>yi v ((yb hL0).2 v hv)
 clear hL0 hL1 hL2;simp only[pars,Nat.zero_add];iterate 2 refine rS ?_
 refine AWP.block ?_;generalize hz1:yh (y5n a0 a1 a2) (a0.length-0) 0 ()=z1 at hR;refine AWP.range (y5n a0 a1 a2) (fun i1 s1=>⟨[(0,encL 20 yf a0),(1,.int .i64 a1),(2,.int .i64 a2),(7,.int .i64 (i1:Int))],[]⟩) (fun i1 s1=>True) (a0.length) 0 () [] hz1 ot wt sm ?_;clear hz1;intro i1 s1 hi1 hW1 hz1;refine rS ?_;refine AWP.cond rfl (fun hb => ?_) (fun hb => ?_)
 ·have hlt1:i1<a0.length:=ot
  rw[yp hlt1]at hz1;simp only[y5n]at hz1;refine rS ?_;refine AWP.cond rfl (fun hb => ?_) (fun hb => ?_)
  ·simp only[hb,cond_true]at hz1
   refine rS ?_;refine AWP.ret ?_;subst hz1;dsimp only at hR;subst hR;exact es
  ·simp only[hb,cond_false]at hz1
   refine rS ?_;exact⟨_,[],hlt1,wt,hz1,sm⟩
 ·obtain rfl:i1=a0.length:=ot
  rw[yn (Nat.le_refl _)]at hz1;subst hz1;dsimp only at hR;refine AWP.exit ?_;refine yd ?_;refine rS ?_;refine AWP.ret ?_;subst hR;exact es
end N253
def D_zkc : DF
 | [x0,x1,x2]=>some (.bool (zkc (rdL yc x0) (rdI x1) (rdI x2)),false,[wL 20 yf yc x0,wI .i64 x1,wI .i64 x2])
 | _=>none
theorem yyy:OkD Tryz.prog 253 D_zkc:=by unfold D_zkc;exact dk N253.den
def yyj (a0:(List Notice)) (a1:Notice) (i1:Nat) (s1:Unit):Except (Bool) (Unit):=
 (bif (((a0.getD i1 default).Number) == a1.Target)then .error ((((a0.getD i1 default).Kind) != 4) && (!(zkc a0 a1.Target 99999)))else .ok ())
def ztb (a0:(List Notice)) (a1:Notice):Bool:=
 (bif (a1.Kind != 4)then true else(match yh (yyj a0 a1) (a0.length-0) 0 ()with|.error e=>e|.ok s1=>false))
namespace N201
theorem DD:DOk Tryz.prog (Go.Ab.DD [(253,dP D_zkc)]):=ya yyy.e <| ye _
theorem dn:type_of% (@D_zkc.eq_1):=by and_intros<;>intros<;>rfl
theorem den (a0:(List Notice)) (a1:Notice)  : Den Tryz.prog 201 [encL 20 yf a0,.ep (yf a1)] (.bool (ztb a0 a1)):=by
 generalize hR:ztb a0 a1=r;unfold ztb at hR;refine di Tryz.func201 Tryz.ntmps201 Tryz.results201 ?_;intro c hL hc hk;obtain⟨hL0,hL1,_⟩:=hL;have hw0:a0.length<9223372036854775808:=Nat.lt_succ_of_le (yb hL0).1;have hw1:∀ v∈a0,bwNotice v:=fun v hv=>yi v ((yb hL0).2 v hv)
 have hw2:bwNotice a1:=yi a1 hL1;clear hL0 hL1;simp only[pars,Nat.zero_add];iterate 2 refine rS ?_
 refine AWP.cond rfl (fun hb => ?_) (fun hb => ?_)
 ·replace hR:=ct hR
  refine rS ?_;refine AWP.ret ?_;subst hR;exact es
 ·replace hR:=cf hR
  refine rS ?_;refine AWP.block ?_;generalize hz1:yh (yyj a0 a1) (a0.length-0) 0 ()=z1 at hR;refine AWP.range (yyj a0 a1) (fun i1 s1=>⟨[(0,encL 20 yf a0),(1,.ep (yf a1)),(5,.int .i64 (i1:Int))],[]⟩) (fun i1 s1=>True) (a0.length) 0 () [] hz1 ot wt sm ?_;clear hz1;intro i1 s1 hi1 hW1 hz1;refine rS ?_;refine AWP.cond rfl (fun hb => ?_) (fun hb => ?_)
  ·have hlt1:i1<a0.length:=ot
   rw[yp hlt1]at hz1;simp only[yyj]at hz1;refine rD 9 ?_;refine AWP.cond rfl (fun hb => ?_) (fun hb => ?_)
   ·simp only[hb,cond_true]at hz1
    refine rS ?_;refine AWP.ret ?_;subst hz1;dsimp only at hR;subst hR;exact es
   ·simp only[hb,cond_false]at hz1
    refine rS ?_;exact⟨_,[],hlt1,wt,hz1,sm⟩
  ·obtain rfl:i1=a0.length:=ot
   rw[yn (Nat.le_refl _)]at hz1;subst hz1;dsimp only at hR;refine AWP.exit ?_;refine yd ?_;refine rS ?_;refine AWP.ret ?_;subst hR;exact es
end N201
def D_ztb : DF
 | [x0,x1]=>some (.bool (ztb (rdL yc x0) (rdP yc x1)),false,[wL 20 yf yc x0,wP yf yc x1])
 | _=>none
theorem yoq:OkD Tryz.prog 201 D_ztb:=by unfold D_ztb;exact dk N201.den
def zhe (a0:Notice):Notice:=
 { Number:=a0.Number,Day:=a0.Day,Kind:=a0.Kind,Target:=a0.Target,Aid:=zfd a0.Aid:Notice }
namespace N203
theorem DD:DOk Tryz.prog (Go.Ab.DD [(198,dP D_zfd)]):=ya yvk.e <| ye _
theorem dn:type_of% (@D_zfd.eq_1):=by and_intros<;>intros<;>rfl
theorem den (a0:Notice) (hb0:bdNotice a0):Den Tryz.prog 203 [.ep (yf a0)] (.agg (yuc (zhe a0))):=by
 generalize hR:zhe a0=r;unfold zhe at hR;refine di Tryz.func203 Tryz.ntmps203 Tryz.results203 ?_;intro c hL hc hk;obtain⟨hL0,_⟩:=hL;have hw0:bwNotice a0:=yi a0 hL0;clear hL0;simp only[pars,Nat.zero_add];iterate 4 refine rS ?_
 refine AWP.ret ?_;subst hR;exact es
end N203
def D_zhe : DF
 | [x0]=>some (.agg (yuc (zhe (rdP yc x0))),false,[wP yf yc x0,bdNotice (rdP yc x0)])
 | _=>none
theorem ylq:OkD Tryz.prog 203 D_zhe:=by unfold D_zhe;exact dk N203.den
def y3j (a0:(List Notice)) (i1:Nat) (s1:List Notice):Except ((List Notice)) (List Notice):=
 .ok (s1++[zhe (a0.getD i1 default)])
def zod (a0:(List Notice)):(List Notice):=
 (match yh (y3j a0) (a0.length-0) 0 ([]:List Notice)with|.error e=>e|.ok s1=>s1)
namespace N202
theorem DD:DOk Tryz.prog (Go.Ab.DD [(203,dP D_zhe)]):=ya ylq.e <| ye _
theorem dn:type_of% (@D_zhe.eq_1):=by and_intros<;>intros<;>rfl
theorem den (a0:(List Notice)) (hb0:a0.length<1099511627776) (hb1:∀ v∈a0,bdNotice v) (hp0:a0.length<=1073741824):Den Tryz.prog 202 [encL 20 yf a0] (ownL 140 20 yuc (zod a0)):=by
 generalize hR:zod a0=r;unfold zod at hR;refine di Tryz.func202 Tryz.ntmps202 Tryz.results202 ?_;intro c hL hc hk;obtain⟨hL0,_⟩:=hL;have hw0:a0.length<9223372036854775808:=Nat.lt_succ_of_le (yb hL0).1;have hw1:∀ v∈a0,bwNotice v:=fun v hv=>yi v ((yb hL0).2 v hv)
 clear hL0;simp only[pars,Nat.zero_add];iterate 3 refine rS ?_
 refine AWP.block ?_;generalize hz1:yh (y3j a0) (a0.length-0) 0 ([]:List Notice)=z1 at hR;refine AWP.range (y3j a0) (fun i1 s1=>⟨[(0,encL 20 yf a0),(3,.ref 0 20 0 s1.length),(4,.int .i64 (i1:Int))],[.arr 140 20 s1.length (fun j=>yuc (s1.getD j default))]⟩) (fun i1 s1=>s1.length<=([]:List Notice).length+1 * i1) (a0.length) 0 ([]:List Notice) [0] hz1 ot wt sm ?_;clear hz1;intro i1 s1 hi1 hW1 hz1;refine rS ?_;refine AWP.cond rfl (fun hb => ?_) (fun hb => ?_)
 ·have hlt1:i1<a0.length:=ot
  rw[yp hlt1]at hz1;simp only[y3j]at hz1;iterate 2 refine rS ?_
  exact⟨_,[4],hlt1,wt,hz1,sm⟩
 ·obtain rfl:i1=a0.length:=ot
  rw[yn (Nat.le_refl _)]at hz1;subst hz1;dsimp only at hR;refine AWP.exit ?_;refine yd ?_;refine rS ?_;refine AWP.ret ?_;subst hR;exact es
end N202
def D_zod : DF
 | [x0]=>some (ownL 140 20 yuc (zod (rdL yc x0)),false,[wL 20 yf yc x0,(rdL yc x0).length<1099511627776,∀ v∈(rdL yc x0),bdNotice v,(rdL yc x0).length<=1073741824])
 | _=>none
theorem yry:OkD Tryz.prog 202 D_zod:=by unfold D_zod;exact dk N202.den
def zyb (a0:l00Src):Int×l00Src:=
 (bif decide (a0.at_<(a0.code.length:Int))then(bif decide ((IntKind.wrap .i64 (a0.at_+1))<=(a0.code.length:Int))then(IntKind.wrap .i64 (a0.code.getD ((a0.at_).toNat) default),{ code:=a0.code,at_:=IntKind.wrap .i64 (a0.at_+1),seed:=IntKind.wrap .u64 ((IntKind.wrap .u64 ((IntKind.wrap .u64 (a0.seed * 6364136223846793005))+(IntKind.wrap .u64 (IntKind.wrap .i64 (a0.code.getD ((a0.at_).toNat) default)))))+1442695040888963407):l00Src })else(IntKind.wrap .i64 (IntKind.wrap .u64 (BitVec.ofInt (IntKind.bits .u64) ((IntKind.wrap .u64 ((IntKind.wrap .u64 ((IntKind.wrap .u64 (a0.seed * 6364136223846793005))+(IntKind.wrap .u64 (IntKind.wrap .i64 (a0.code.getD ((a0.at_).toNat) default)))))+1442695040888963407)).fdiv (2 ^ (Min.min 40 (IntKind.bits .u64)))) &&& BitVec.ofInt (IntKind.bits .u64) 255).toNat),{ code:=a0.code,at_:=IntKind.wrap .i64 (a0.at_+1),seed:=IntKind.wrap .u64 ((IntKind.wrap .u64 ((IntKind.wrap .u64 (a0.seed * 6364136223846793005))+(IntKind.wrap .u64 (IntKind.wrap .i64 (a0.code.getD ((a0.at_).toNat) default)))))+1442695040888963407):l00Src }))else(bif decide ((IntKind.wrap .i64 (a0.at_+1))<=(a0.code.length:Int))then(0,{ code:=a0.code,at_:=IntKind.wrap .i64 (a0.at_+1),seed:=IntKind.wrap .u64 ((IntKind.wrap .u64 ((IntKind.wrap .u64 (a0.seed * 6364136223846793005))+(IntKind.wrap .u64 0)))+1442695040888963407):l00Src })else(IntKind.wrap .i64 (IntKind.wrap .u64 (BitVec.ofInt (IntKind.bits .u64) ((IntKind.wrap .u64 ((IntKind.wrap .u64 ((IntKind.wrap .u64 (a0.seed * 6364136223846793005))+(IntKind.wrap .u64 0)))+1442695040888963407)).fdiv (2 ^ (Min.min 40 (IntKind.bits .u64)))) &&& BitVec.ofInt (IntKind.bits .u64) 255).toNat),{ code:=a0.code,at_:=IntKind.wrap .i64 (a0.at_+1),seed:=IntKind.wrap .u64 ((IntKind.wrap .u64 ((IntKind.wrap .u64 (a0.seed * 6364136223846793005))+(IntKind.wrap .u64 0)))+1442695040888963407):l00Src })))
namespace N149
theorem DD:DOk Tryz.prog (Go.Ab.DD []):=ye _
theorem o1 {p:Prop} (h:p:=by(first|(refine SrcOk.mono (by repeat' first|assumption|exact SrcOk.next ‹_› | apply SrcOk.next|apply SrcOk.pick|apply SrcOk.among|apply SrcOk.text|apply SrcOk.name|apply SrcOk.drawName|apply SrcOk.word|apply SrcOk.entry|apply SrcOk.base|omega) (by omega)));first|done|fail):p:=h
theorem den (a0:l00Src) (hp0:SrcOk 1000000 a0):DenM Tryz.prog 149 [.op (yr a0)] (.int .i64 ((zyb a0).1)) [(.op (yr ((zyb a0).2)))]:=by
 generalize hR:zyb a0=r;unfold zyb at hR;refine dj (gb:=[true]) Tryz.func149 Tryz.ntmps149 Tryz.results149 ?_;intro c hL hc hk;obtain⟨hL0,_⟩:=hL;have hw0:bwl00Src a0:=ybb a0 hL0;clear hL0;simp only[adEL,adE,adRL,adR,ownL,encL,sv,List.nil_append,List.append_nil,List.cons_append,List.length_cons,List.length_nil,pars,Nat.zero_add,Nat.reduceAdd]at hk ⊢;have hp1:=hp0.lo;have hp2:=hp0.hi;iterate 2 refine rS ?_
 refine rD 10 ?_;refine AWP.cond rfl (fun hb => ?_) (fun hb => ?_)
 ·replace hR:=ct hR
  refine rD 11 ?_;iterate 2 refine rS ?_
  refine rD 10 ?_;refine AWP.cond rfl (fun hb => ?_) (fun hb => ?_)
  ·replace hR:=ct hR
   refine rS ?_;refine AWP.ret ?_;subst hR;exact es
  ·replace hR:=cf hR
   refine rS ?_;refine AWP.ret ?_;subst hR;exact es
 ·replace hR:=cf hR
  iterate 2 refine rS ?_
  refine rD 10 ?_;refine AWP.cond rfl (fun hb => ?_) (fun hb => ?_)
  ·replace hR:=ct hR
   refine rS ?_;refine AWP.ret ?_;subst hR;exact es
  ·replace hR:=cf hR
   refine rS ?_;refine AWP.ret ?_;subst hR;exact es
end N149
def D_zyb : List AV -> Option (AV × List AV × List Prop)
 | [x0]=>some (.int .i64 ((zyb (rdQ yt x0)).1),[(.op (yr ((zyb (rdQ yt x0)).2)))],[wQ yr yt x0,SrcOk 1000000 (rdQ yt x0)])
 | _=>none
theorem yjv:OkM Tryz.prog 149 D_zyb:=by unfold D_zyb;exact dm N149.den
theorem yar {n:Int} {s:l00Src} (h:SrcOk n s) (hn:n<=4000000000):0<=(zyb s).1/\(zyb s).1<=255:=by
 have h1:=h.lo;have h2:=h.hi;have hb:0<=s.code.getD s.at_.toNat default/\s.code.getD s.at_.toNat default<=255:=y7d (p:=fun v=>0<=v/\v<=255) h.by_ (by decide) _
 have hand:∀ x:Int,0<=((BitVec.ofInt (IntKind.bits .u64) x &&& BitVec.ofInt (IntKind.bits .u64) 255).toNat:Int)/\((BitVec.ofInt (IntKind.bits .u64) x &&& BitVec.ofInt (IntKind.bits .u64) 255).toNat:Int)<=255:=by
  intro x;refine⟨Int.natCast_nonneg _,?_⟩;rw[BitVec.toNat_and];have:=Nat.and_le_right (n:=(BitVec.ofInt (IntKind.bits .u64) x).toNat) (m:=(BitVec.ofInt (IntKind.bits .u64) 255).toNat);have e:(BitVec.ofInt (IntKind.bits .u64) 255).toNat=255:=by decide
  omega
 have hw:∀ y:Int,0<=y->y<=255->IntKind.wrap .i64 (IntKind.wrap .u64 y)=y:=by
  intro y _ _
  have:IntKind.wrap .u64 y=y:=by
   simp[IntKind.wrap,IntKind.bits,IntKind.signed];omega
  rw[this,IntKind.wrap_i64];omega
 unfold zyb;simp only[Bool.cond_eq_ite];repeat' split
 all_goals first
  | (simp only[IntKind.wrap_i64];omega)
  | (rw[hw _ (hand _).1 (hand _).2];exact hand _)
theorem SrcOk.next {n:Int} {s:l00Src} (h:SrcOk n s) (hn:n<=4000000000):SrcOk (n+1) (zyb s).2:=by
 have h1:=h.lo;have h2:=h.hi;unfold zyb;simp only[Bool.cond_eq_ite];repeat' split
 all_goals exact⟨by simp only[IntKind.wrap_i64];omega,by simp only[IntKind.wrap_i64];omega,h.by_⟩
def za (a0:l00Src) (a1:Int):Int×l00Src:=
 (bif decide (a1<=1)then(0,a0)else(bif decide (200<a1)then((IntKind.wrap .i64 ((IntKind.wrap .i64 (((zyb a0).1) * 256))+((zyb ((zyb a0).2)).1))).tmod a1,(zyb ((zyb a0).2)).2)else(((zyb a0).1).tmod a1,(zyb a0).2)))
namespace N95
theorem DD:DOk Tryz.prog (Go.Ab.DD [(149,dM [true] D_zyb)]):=ya yjv.e <| ye _
theorem dn:type_of% (@D_zyb.eq_1):=by and_intros<;>intros<;>rfl
theorem o1 {p:Prop} (h:p:=by(first|(refine SrcOk.mono (by repeat' first|assumption|exact SrcOk.next ‹_› | apply SrcOk.next|apply SrcOk.pick|apply SrcOk.among|apply SrcOk.text|apply SrcOk.name|apply SrcOk.drawName|apply SrcOk.word|apply SrcOk.entry|apply SrcOk.base|omega) (by omega)));first|done|fail):p:=h
theorem den (a0:l00Src) (a1:Int) (hp0:SrcOk 900000 a0):DenM Tryz.prog 95 [.op (yr a0),.int .i64 a1] (.int .i64 ((za a0 a1).1)) [(.op (yr ((za a0 a1).2))),.any]:=by
 generalize hR:za a0 a1=r;unfold za at hR;refine dj (gb:=[true,false]) Tryz.func95 Tryz.ntmps95 Tryz.results95 ?_;intro c hL hc hk;obtain⟨hL0,hL1,_⟩:=hL;have hw0:bwl00Src a0:=ybb a0 hL0;clear hL0 hL1;simp only[adEL,adE,adRL,adR,ownL,encL,sv,List.nil_append,List.append_nil,List.cons_append,List.length_cons,List.length_nil,pars,Nat.zero_add,Nat.reduceAdd]at hk ⊢;iterate 2 refine rS ?_
 refine AWP.cond rfl (fun hb => ?_) (fun hb => ?_)
 ·replace hR:=ct hR
  refine rS ?_;refine AWP.ret ?_;subst hR;exact es
 ·replace hR:=cf hR
  iterate 2 refine rS ?_
  refine AWP.cond rfl (fun hb => ?_) (fun hb => ?_)
  ·replace hR:=ct hR
   iterate 2 refine rS ?_
   refine AWP.ret ?_;subst hR;exact es
  ·replace hR:=cf hR
   refine rS ?_;refine AWP.ret ?_;subst hR;exact es
end N95
def D_za : List AV -> Option (AV × List AV × List Prop)
 | [x0,x1]=>some (.int .i64 ((za (rdQ yt x0) (rdI x1)).1),[(.op (yr ((za (rdQ yt x0) (rdI x1)).2))),.any],[wQ yr yt x0,wI .i64 x1,SrcOk 900000 (rdQ yt x0)])
 | _=>none
theorem ybd:OkM Tryz.prog 95 D_za:=by unfold D_za;exact dm N95.den
theorem yj {n:Int} {s:l00Src} (m:Int) (h:SrcOk n s) (hn:n<=2000000000):0<=(za s m).1/\(1<=m->(za s m).1<m):=by
 have v1:=yar h (by omega);have v2:=yar (h.next (by omega)) (by omega);unfold za;simp only[Bool.cond_eq_ite,decide_eq_true_eq];repeat' split
 ·simp;omega
 ·have hx:0<=IntKind.wrap .i64 (IntKind.wrap .i64 ((zyb s).1 * 256)+(zyb (zyb s).2).1):=by
   simp only[IntKind.wrap_i64];omega
  exact⟨Int.tmod_nonneg _ hx,fun _=>Int.tmod_lt_of_pos _ (by omega)⟩
 ·exact⟨Int.tmod_nonneg _ v1.1,fun _=>Int.tmod_lt_of_pos _ (by omega)⟩
theorem SrcOk.pick {n:Int} {s:l00Src} {m:Int} (h:SrcOk n s) (hn:n<=2000000000):SrcOk (n+2) (za s m).2:=by
 unfold za;simp only[Bool.cond_eq_ite,decide_eq_true_eq];repeat' split
 ·exact h.mono (by omega)
 ·have:=(h.next (by omega)).next (by omega)
  exact this.mono (by omega)
 ·exact(h.next (by omega)).mono (by omega)
def zb (a0:l00Src) (a1:(List Int)):Int×l00Src:=
 ((a1.getD ((((za a0 (a1.length:Int)).1)).toNat) default),(za a0 (a1.length:Int)).2)
namespace N97
theorem DD:DOk Tryz.prog (Go.Ab.DD [(95,dM [true,false] D_za)]):=ya ybd.e <| ye _
theorem dn:type_of% (@D_za.eq_1):=by and_intros<;>intros<;>rfl
theorem o1 {p:Prop} (h:p:=by(first|(refine SrcOk.mono (by repeat' first|assumption|exact SrcOk.next ‹_› | apply SrcOk.next|apply SrcOk.pick|apply SrcOk.among|apply SrcOk.text|apply SrcOk.name|apply SrcOk.drawName|apply SrcOk.word|apply SrcOk.entry|apply SrcOk.base|omega) (by omega)));first|done|fail):p:=h
theorem den (a0:l00Src) (a1:(List Int)) (hp0:SrcOk 800000 a0) (hp1:1<=a1.length):DenM Tryz.prog 97 [.op (yr a0),ownL 2 1 yu a1] (.int .i64 ((zb a0 a1).1)) [(.op (yr ((zb a0 a1).2))),.any]:=by
 generalize hR:zb a0 a1=r;unfold zb at hR;refine dj (gb:=[true,false]) Tryz.func97 Tryz.ntmps97 Tryz.results97 ?_;intro c hL hc hk;obtain⟨hL0,hL1,_⟩:=hL;have hw0:bwl00Src a0:=ybb a0 hL0;have hw1:a1.length<9223372036854775808:=Nat.lt_succ_of_le (y1h hL1).1;clear hL0 hL1;simp only[adEL,adE,adRL,adR,ownL,encL,sv,List.nil_append,List.append_nil,List.cons_append,List.length_cons,List.length_nil,pars,Nat.zero_add,Nat.reduceAdd]at hk ⊢;have hr:=yj (a1.length:Int) hp0 (by omega);iterate 2 refine rS ?_
 refine AWP.ret ?_;subst hR;exact es
end N97
def D_zb : List AV -> Option (AV × List AV × List Prop)
 | [x0,x1]=>some (.int .i64 ((zb (rdQ yt x0) (rdL yhb x1)).1),[(.op (yr ((zb (rdQ yt x0) (rdL yhb x1)).2))),.any],[wQ yr yt x0,wO 2 1 yu yhb x1,SrcOk 800000 (rdQ yt x0),1<=(rdL yhb x1).length])
 | _=>none
theorem yto:OkM Tryz.prog 97 D_zb:=by unfold D_zb;exact dm N97.den
theorem SrcOk.among {n:Int} {s:l00Src} {l} (h:SrcOk n s) (hn:n<=2000000000):SrcOk (n+2) (zb s l).2:=by
 unfold zb;exact h.pick hn
def zo (a0:l00Src) (a1:(List (List UInt8))):(List UInt8)×l00Src:=
 ((a1.getD ((((za a0 (a1.length:Int)).1)).toNat) default),(za a0 (a1.length:Int)).2)
namespace N96
theorem DD:DOk Tryz.prog (Go.Ab.DD [(95,dM [true,false] D_za)]):=ya ybd.e <| ye _
theorem dn:type_of% (@D_za.eq_1):=by and_intros<;>intros<;>rfl
theorem o1 {p:Prop} (h:p:=by(first|(refine SrcOk.mono (by repeat' first|assumption|exact SrcOk.next ‹_› | apply SrcOk.next|apply SrcOk.pick|apply SrcOk.among|apply SrcOk.text|apply SrcOk.name|apply SrcOk.drawName|apply SrcOk.word|apply SrcOk.entry|apply SrcOk.base|omega) (by omega)));first|done|fail):p:=h
theorem den (a0:l00Src) (a1:(List (List UInt8))) (hp0:SrcOk 800000 a0) (hp1:1<=a1.length):DenM Tryz.prog 96 [.op (yr a0),ownL 9 1 eS a1] (.str ((zo a0 a1).1)) [(.op (yr ((zo a0 a1).2))),.any]:=by
 generalize hR:zo a0 a1=r;unfold zo at hR;refine dj (gb:=[true,false]) Tryz.func96 Tryz.ntmps96 Tryz.results96 ?_;intro c hL hc hk;obtain⟨hL0,hL1,_⟩:=hL;have hw0:bwl00Src a0:=ybb a0 hL0;have hw1:a1.length<9223372036854775808:=Nat.lt_succ_of_le (y1h hL1).1;have hw2:∀ v∈a1,bwS v:=fun v hv=>ykp v ((y1h hL1).2 v hv)
 clear hL0 hL1;simp only[adEL,adE,adRL,adR,ownL,encL,sv,List.nil_append,List.append_nil,List.cons_append,List.length_cons,List.length_nil,pars,Nat.zero_add,Nat.reduceAdd]at hk ⊢;have hr:=yj (a1.length:Int) hp0 (by omega);iterate 2 refine rS ?_
 refine AWP.ret ?_;subst hR;exact es
end N96
def D_zo : List AV -> Option (AV × List AV × List Prop)
 | [x0,x1]=>some (.str ((zo (rdQ yt x0) (rdL dS x1)).1),[(.op (yr ((zo (rdQ yt x0) (rdL dS x1)).2))),.any],[wQ yr yt x0,wO 9 1 eS dS x1,SrcOk 800000 (rdQ yt x0),1<=(rdL dS x1).length])
 | _=>none
theorem y7o:OkM Tryz.prog 96 D_zo:=by unfold D_zo;exact dm N96.den
theorem SrcOk.text {n:Int} {s:l00Src} {l} (h:SrcOk n s) (hn:n<=2000000000):SrcOk (n+2) (zo s l).2:=by
 unfold zo;exact h.pick hn
def zi (a0:l00Src) (a1:Int):Bool×l00Src:=
 ((((za a0 a1).1) == 0),(za a0 a1).2)
namespace N99
theorem DD:DOk Tryz.prog (Go.Ab.DD [(95,dM [true,false] D_za)]):=ya ybd.e <| ye _
theorem dn:type_of% (@D_za.eq_1):=by and_intros<;>intros<;>rfl
theorem o1 {p:Prop} (h:p:=by(first|(refine SrcOk.mono (by repeat' first|assumption|exact SrcOk.next ‹_› | apply SrcOk.next|apply SrcOk.pick|apply SrcOk.among|apply SrcOk.text|apply SrcOk.name|apply SrcOk.drawName|apply SrcOk.word|apply SrcOk.entry|apply SrcOk.base|omega) (by omega)));first|done|fail):p:=h
theorem den (a0:l00Src) (a1:Int) (hp0:SrcOk 800000 a0):DenM Tryz.prog 99 [.op (yr a0),.int .i64 a1] (.bool ((zi a0 a1).1)) [(.op (yr ((zi a0 a1).2))),.any]:=by
 generalize hR:zi a0 a1=r;unfold zi at hR;refine dj (gb:=[true,false]) Tryz.func99 Tryz.ntmps99 Tryz.results99 ?_;intro c hL hc hk;obtain⟨hL0,hL1,_⟩:=hL;have hw0:bwl00Src a0:=ybb a0 hL0;clear hL0 hL1;simp only[adEL,adE,adRL,adR,ownL,encL,sv,List.nil_append,List.append_nil,List.cons_append,List.length_cons,List.length_nil,pars,Nat.zero_add,Nat.reduceAdd]at hk ⊢;iterate 2 refine rS ?_
 refine AWP.ret ?_;subst hR;exact es
end N99
def D_zi : List AV -> Option (AV × List AV × List Prop)
 | [x0,x1]=>some (.bool ((zi (rdQ yt x0) (rdI x1)).1),[(.op (yr ((zi (rdQ yt x0) (rdI x1)).2))),.any],[wQ yr yt x0,wI .i64 x1,SrcOk 800000 (rdQ yt x0)])
 | _=>none
theorem yol:OkM Tryz.prog 99 D_zi:=by unfold D_zi;exact dm N99.den
theorem SrcOk.one {n:Int} {s:l00Src} {m:Int} (h:SrcOk n s) (hn:n<=2000000000):SrcOk (n+2) (zi s m).2:=by
 unfold zi;exact h.pick hn
def zd (a0:l00Src):(List UInt8)×l00Src:=
 (((zo a0 ([[87],[87],[82],[71],[89],[87,82],[82,71],[87,82,71],[87,71]]:List (List UInt8))).1),(zo a0 ([[87],[87],[82],[71],[89],[87,82],[82,71],[87,82,71],[87,71]]:List (List UInt8))).2)
namespace N249
theorem DD:DOk Tryz.prog (Go.Ab.DD [(96,dM [true,true] D_zo)]):=ya y7o.e <| ye _
theorem dn:type_of% (@D_zo.eq_1):=by and_intros<;>intros<;>rfl
theorem o1 {p:Prop} (h:p:=by(first|(refine SrcOk.mono (by repeat' first|assumption|exact SrcOk.next ‹_› | apply SrcOk.next|apply SrcOk.pick|apply SrcOk.one|apply SrcOk.among|apply SrcOk.text|apply SrcOk.colors|apply SrcOk.point|apply SrcOk.chr|apply SrcOk.sectors|apply SrcOk.aid|apply SrcOk.aids|apply SrcOk.notice|omega) (by omega)));first|done|fail):p:=h
theorem lx {p:Prop} (h:p:=by(exact lxx);first|done|fail):p:=h
set_option maxHeartbeats 2000000 in
set_option maxRecDepth 20000 in
theorem den (a0:l00Src) (hp0:SrcOk 700000 a0):DenM Tryz.prog 249 [.op (yr a0)] (.str ((zd a0).1)) [(.op (yr ((zd a0).2)))]:=by
 generalize hR:zd a0=r;unfold zd at hR;refine dj (gb:=[true]) Tryz.func249 Tryz.ntmps249 Tryz.results249 ?_;intro c hL hc hk;obtain⟨hL0,_⟩:=hL;have hw0:bwl00Src a0:=ybb a0 hL0;clear hL0;simp only[adEL,adE,adRL,adR,ownL,encL,sv,List.nil_append,List.append_nil,List.cons_append,List.length_cons,List.length_nil,pars,Nat.zero_add,Nat.reduceAdd]at hk ⊢;iterate 2 refine rS ?_
 refine AWP.ret ?_;subst hR;exact es
end N249
def D_zd : List AV -> Option (AV × List AV × List Prop)
 | [x0]=>some (.str ((zd (rdQ yt x0)).1),[(.op (yr ((zd (rdQ yt x0)).2)))],[wQ yr yt x0,SrcOk 700000 (rdQ yt x0)])
 | _=>none
theorem yb0:OkM Tryz.prog 249 D_zd:=by unfold D_zd;exact dm N249.den
theorem SrcOk.colors {n:Int} {s:l00Src} (h:SrcOk n s) (hn:n<=2000000000):SrcOk (n+2) (zd s).2:=by
 unfold zd;exact h.text hn
def zeg (a0:Aid):Bool:=
 (a0.Light.Kind != 0)
def zj (a0:Int) (a1:Int):Int:=
 (bif decide (a0<a1)then a0 else a1)
namespace N250
theorem DD:DOk Tryz.prog (Go.Ab.DD []):=ye _
theorem den (a0:Int) (a1:Int)  : Den Tryz.prog 250 [.int .i64 a0,.int .i64 a1] (.int .i64 (zj a0 a1)):=by
 generalize hR:zj a0 a1=r;unfold zj at hR;refine di Tryz.func250 Tryz.ntmps250 Tryz.results250 ?_;intro c hL hc hk;clear hL;simp only[pars,Nat.zero_add];iterate 2 refine rS ?_
 refine AWP.cond rfl (fun hb => ?_) (fun hb => ?_)
 ·replace hR:=ct hR
  refine rS ?_;refine AWP.ret ?_;subst hR;exact es
 ·replace hR:=cf hR
  refine rS ?_;refine AWP.ret ?_;subst hR;exact es
end N250
def D_zj : DF
 | [x0,x1]=>some (.int .i64 (zj (rdI x0) (rdI x1)),false,[wI .i64 x0,wI .i64 x1])
 | _=>none
theorem y3z:OkD Tryz.prog 250 D_zj:=by unfold D_zj;exact dk N250.den
end Go.Ab
