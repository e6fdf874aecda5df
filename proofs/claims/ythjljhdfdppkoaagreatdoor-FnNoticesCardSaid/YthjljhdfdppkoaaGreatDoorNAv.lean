/- A part of a proof: walks of functions and lemmas of our own. No conditions. -/
import Derived.Test.YthjljhdfdppkoaaGreatDoorNAl
import Derived.Test.YthjljhdfdppkoaaGreatDoorNAu
import Derived.Test.YthjljhdfdppkoaaGreatDoorNAp
set_option linter.unusedSectionVars false
set_option linter.unusedVariables false
set_option linter.unusedSimpArgs false
set_option maxHeartbeats 1000000
namespace Go.Ab
open Go Go.Proofs
def ycn (a0:(List Aid)) (i1:Nat) (s1:List Aid):Except ((List Aid)) (List Aid):=
 .ok (s1++[zre (a0.getD i1 default)])
def zse (a0:(List Aid)):(List Aid):=
 (match yh (ycn a0) (a0.length-0) 0 ([]:List Aid)with|.error e=>e|.ok s1=>s1)
namespace N99
theorem DD:DOk Tryz.prog (Go.Ab.DD [(100,dP D_zre)]):=ya yfo.e <| yf _
abbrev dn:=@D_zre.eq_1
theorem den (a0:(List Aid)) (hb0:a0.length<1099511627776) (hb1:∀ v∈a0,bdAid v) (hp0:a0.length<=1073741824):Den Tryz.prog 99 [encL 16 eAid a0] (ownL 37 16 y4b (zse a0)):=by
 generalize hR:zse a0=r;unfold zse at hR;refine di Tryz.func99 Tryz.ntmps99 Tryz.results99 ?_;intro c hL hc hk;obtain⟨hL0,_⟩:=hL;have hw0:a0.length<9223372036854775808:=Nat.lt_succ_of_le (yb hL0).1;have hw1:∀ v∈a0,bwAid v:=fun v hv=>y3 v ((yb hL0).2 v hv)
 clear hL0;simp only[pars,Nat.zero_add];iterate 3 refine rS ?_
 refine AWP.block ?_;generalize hz1:yh (ycn a0) (a0.length-0) 0 ([]:List Aid)=z1 at hR;refine AWP.range (ycn a0) (fun i1 s1=>⟨[(0,encL 16 eAid a0),(3,.ref 0 16 0 s1.length),(4,.int .i64 (i1:Int))],[.arr 37 16 s1.length (fun j=>y4b (s1.getD j default))]⟩) (fun i1 s1=>s1.length<=([]:List Aid).length+1 * i1) (a0.length) 0 ([]:List Aid) [0] hz1 ot wt sm ?_;clear hz1;intro i1 s1 hi1 hW1 hz1;refine rS ?_;refine AWP.cond rfl (fun hb => ?_) (fun hb => ?_)
 ·have hlt1:i1<a0.length:=ot
  rw[yl hlt1]at hz1;simp only[ycn]at hz1;iterate 2 refine rS ?_
  exact⟨_,[4],hlt1,wt,hz1,sm⟩
 ·obtain rfl:i1=a0.length:=ot
  rw[yk (Nat.le_refl _)]at hz1;subst hz1;dsimp only at hR;refine AWP.exit ?_;refine yd ?_;refine rS ?_;refine AWP.ret ?_;subst hR;exact es
end N99
def D_zse : DF
 | [x0]=>some (ownL 37 16 y4b (zse (rdL dAid x0)),false,[wL 16 eAid dAid x0,(rdL dAid x0).length<1099511627776,∀ v∈(rdL dAid x0),bdAid v,(rdL dAid x0).length<=1073741824])
 | _=>none
theorem yt7:OkD Tryz.prog 99 D_zse:=by unfold D_zse;exact dk N99.den
def ymv (a0:(List Sector)) (a1:(List Sector)) (i1:Nat) (s1:Unit):Except (Bool) (Unit):=
 (bif (!(((a0.getD i1 default).From) == ((a1.getD i1 default).From) && (((a0.getD i1 default).To) == ((a1.getD i1 default).To) && ((a0.getD i1 default).Color) == ((a1.getD i1 default).Color))))then .error false else .ok ())
def zgg (a0:(List Sector)) (a1:(List Sector)):Bool:=
 (bif ((a0.length:Int) != (a1.length:Int))then false else(match yh (ymv a0 a1) (a0.length-0) 0 ()with|.error e=>e|.ok s1=>true))
namespace N89
theorem DD:DOk Tryz.prog (Go.Ab.DD []):=yf _
theorem den (a0:(List Sector)) (a1:(List Sector))  : Den Tryz.prog 89 [encL 3 yr a0,encL 3 yr a1] (.bool (zgg a0 a1)):=by
 generalize hR:zgg a0 a1=r;unfold zgg at hR;refine di Tryz.func89 Tryz.ntmps89 Tryz.results89 ?_;intro c hL hc hk;obtain⟨hL0,hL1,_⟩:=hL;have hw0:a0.length<9223372036854775808:=Nat.lt_succ_of_le (yb hL0).1;have hw1:∀ v∈a0,bwSector v:=fun v hv=>y8 v ((yb hL0).2 v hv)
 have hw2:a1.length<9223372036854775808:=Nat.lt_succ_of_le (yb hL1).1;have hw3:∀ v∈a1,bwSector v:=fun v hv=>y8 v ((yb hL1).2 v hv)
 clear hL0 hL1;simp only[pars,Nat.zero_add];iterate 2 refine rS ?_
 refine AWP.cond rfl (fun hb => ?_) (fun hb => ?_)
 ·replace hR:=ct hR
  refine rS ?_;refine AWP.ret ?_;subst hR;exact es
 ·replace hR:=cf hR
  refine rS ?_;refine AWP.block ?_;generalize hz1:yh (ymv a0 a1) (a0.length-0) 0 ()=z1 at hR;refine AWP.range (ymv a0 a1) (fun i1 s1=>⟨[(0,encL 3 yr a0),(1,encL 3 yr a1),(5,.int .i64 (i1:Int))],[]⟩) (fun i1 s1=>True) (a0.length) 0 () [] hz1 ot wt sm ?_;clear hz1;intro i1 s1 hi1 hW1 hz1;refine rS ?_;refine AWP.cond rfl (fun hb => ?_) (fun hb => ?_)
  ·have hlt1:i1<a0.length:=ot
   rw[yl hlt1]at hz1;simp only[ymv]at hz1;refine rD 8 ?_;refine AWP.cond rfl (fun hb => ?_) (fun hb => ?_)
   ·simp only[hb,cond_true]at hz1
    refine rS ?_;refine AWP.ret ?_;subst hz1;dsimp only at hR;subst hR;exact es
   ·simp only[hb,cond_false]at hz1
    refine rS ?_;exact⟨_,[],hlt1,wt,hz1,sm⟩
  ·obtain rfl:i1=a0.length:=ot
   rw[yk (Nat.le_refl _)]at hz1;subst hz1;dsimp only at hR;refine AWP.exit ?_;refine yd ?_;refine rS ?_;refine AWP.ret ?_;subst hR;exact es
end N89
def D_zgg : DF
 | [x0,x1]=>some (.bool (zgg (rdL yz x0) (rdL yz x1)),false,[wL 3 yr yz x0,wL 3 yr yz x1])
 | _=>none
theorem yy3:OkD Tryz.prog 89 D_zgg:=by unfold D_zgg;exact dk N89.den
def ywv (a0:(List Int)) (a1:(List Int)) (i1:Nat) (s1:Unit):Except (Bool) (Unit):=
 (bif ((a0.getD i1 default) != (a1.getD i1 default))then .error false else .ok ())
def zhg (a0:(List Int)) (a1:(List Int)):Bool:=
 (bif ((a0.length:Int) != (a1.length:Int))then false else(match yh (ywv a0 a1) (a0.length-0) 0 ()with|.error e=>e|.ok s1=>true))
namespace N152
theorem DD:DOk Tryz.prog (Go.Ab.DD []):=yf _
theorem den (a0:(List Int)) (a1:(List Int))  : Den Tryz.prog 152 [encL 1 yx a0,encL 1 yx a1] (.bool (zhg a0 a1)):=by
 generalize hR:zhg a0 a1=r;unfold zhg at hR;refine di Tryz.func152 Tryz.ntmps152 Tryz.results152 ?_;intro c hL hc hk;obtain⟨hL0,hL1,_⟩:=hL;have hw0:a0.length<9223372036854775808:=Nat.lt_succ_of_le (yb hL0).1;have hw1:a1.length<9223372036854775808:=Nat.lt_succ_of_le (yb hL1).1;clear hL0 hL1;simp only[pars,Nat.zero_add];iterate 2 refine rS ?_
 refine AWP.cond rfl (fun hb => ?_) (fun hb => ?_)
 ·replace hR:=ct hR
  refine rS ?_;refine AWP.ret ?_;subst hR;exact es
 ·replace hR:=cf hR
  refine rS ?_;refine AWP.block ?_;generalize hz1:yh (ywv a0 a1) (a0.length-0) 0 ()=z1 at hR;refine AWP.range (ywv a0 a1) (fun i1 s1=>⟨[(0,encL 1 yx a0),(1,encL 1 yx a1),(5,.int .i64 (i1:Int))],[]⟩) (fun i1 s1=>True) (a0.length) 0 () [] hz1 ot wt sm ?_;clear hz1;intro i1 s1 hi1 hW1 hz1;refine rS ?_;refine AWP.cond rfl (fun hb => ?_) (fun hb => ?_)
  ·have hlt1:i1<a0.length:=ot
   rw[yl hlt1]at hz1;simp only[ywv]at hz1;refine rD 8 ?_;refine AWP.cond rfl (fun hb => ?_) (fun hb => ?_)
   ·simp only[hb,cond_true]at hz1
    refine rS ?_;refine AWP.ret ?_;subst hz1;dsimp only at hR;subst hR;exact es
   ·simp only[hb,cond_false]at hz1
    refine rS ?_;exact⟨_,[],hlt1,wt,hz1,sm⟩
  ·obtain rfl:i1=a0.length:=ot
   rw[yk (Nat.le_refl _)]at hz1;subst hz1;dsimp only at hR;refine AWP.exit ?_;refine yd ?_;refine rS ?_;refine AWP.ret ?_;subst hR;exact es
end N152
def D_zhg : DF
 | [x0,x1]=>some (.bool (zhg (rdL ynb x0) (rdL ynb x1)),false,[wL 1 yx ynb x0,wL 1 yx ynb x1])
 | _=>none
theorem yd7:OkD Tryz.prog 152 D_zhg:=by unfold D_zhg;exact dk N152.den
def zhh (a0:Character) (a1:Character):Bool:=
 (((((a0.Kind == a1.Kind) && (zhg a0.Group a1.Group)) && (a0.Letter == a1.Letter)) && (a0.Colors == a1.Colors)) && (a0.Period == a1.Period))
namespace N88
theorem DD:DOk Tryz.prog (Go.Ab.DD [(152,dP D_zhg)]):=ya yd7.e <| yf _
abbrev dn:=@D_zhg.eq_1
theorem den (a0:Character) (a1:Character)  : Den Tryz.prog 88 [.ep (yj a0),.ep (yj a1)] (.bool (zhh a0 a1)):=by
 generalize hR:zhh a0 a1=r;unfold zhh at hR;refine di Tryz.func88 Tryz.ntmps88 Tryz.results88 ?_;intro c hL hc hk;obtain⟨hL0,hL1,_⟩:=hL;have hw0:bwCharacter a0:=yv a0 hL0;have hw1:bwCharacter a1:=yv a1 hL1;clear hL0 hL1;simp only[pars,Nat.zero_add];refine rS ?_;refine rD 53 ?_;refine AWP.ret ?_;subst hR;exact es
end N88
def D_zhh : DF
 | [x0,x1]=>some (.bool (zhh (rdP yg x0) (rdP yg x1)),false,[wP yj yg x0,wP yj yg x1])
 | _=>none
theorem yk6:OkD Tryz.prog 88 D_zhh:=by unfold D_zhh;exact dk N88.den
def zqd (a0:Aid) (a1:Aid):Bool:=
 ((((((((a0.Number == a1.Number) && (a0.Name == a1.Name)) && (a0.At.X == a1.At.X && a0.At.Y == a1.At.Y)) && (a0.Height == a1.Height)) && (a0.Mark.Kind == a1.Mark.Kind && (a0.Mark.Colors == a1.Mark.Colors && (a0.Mark.Shape == a1.Mark.Shape && a0.Mark.Topmark == a1.Mark.Topmark)))) && (zhh a0.Light a1.Light)) && (zgg a0.Sectors a1.Sectors)) && (a0.Intensity == a1.Intensity))
namespace N44
theorem DD:DOk Tryz.prog (Go.Ab.DD [(88,dP D_zhh),(89,dP D_zgg)]):=ya yk6.e <| ya yy3.e <| yf _
abbrev dn:=cj @D_zhh.eq_1 <| @D_zgg.eq_1
set_option maxHeartbeats 4000000 in
set_option maxRecDepth 20000 in
theorem den (a0:Aid) (a1:Aid)  : Den Tryz.prog 44 [.ep (eAid a0),.ep (eAid a1)] (.bool (zqd a0 a1)):=by
 generalize hR:zqd a0 a1=r;unfold zqd at hR;refine di Tryz.func44 Tryz.ntmps44 Tryz.results44 ?_;intro c hL hc hk;obtain⟨hL0,hL1,_⟩:=hL;have hw0:bwAid a0:=y3 a0 hL0;have hw1:bwAid a1:=y3 a1 hL1;clear hL0 hL1;simp only[pars,Nat.zero_add];refine rS ?_;refine rD 84 ?_;refine AWP.ret ?_;subst hR;exact es
end N44
def D_zqd : DF
 | [x0,x1]=>some (.bool (zqd (rdP dAid x0) (rdP dAid x1)),false,[wP eAid dAid x0,wP eAid dAid x1])
 | _=>none
theorem ynp:OkD Tryz.prog 44 D_zqd:=by unfold D_zqd;exact dk N44.den
def ybs (a0:(List Notice)) (a1:Int) (a2:Int) (i1:Nat) (s1:Unit):Except (Bool) (Unit):=
 (bif (((((a0.getD i1 default).Kind) == 4) && (((a0.getD i1 default).Target) == a1)) && decide (((a0.getD i1 default).Day)<=a2))then .error true else .ok ())
def zlc (a0:(List Notice)) (a1:Int) (a2:Int):Bool:=
 (match yh (ybs a0 a1 a2) (a0.length-0) 0 ()with|.error e=>e|.ok s1=>false)
namespace N163
theorem DD:DOk Tryz.prog (Go.Ab.DD []):=yf _
theorem den (a0:(List Notice)) (a1:Int) (a2:Int)  : Den Tryz.prog 163 [encL 20 ye a0,.int .i64 a1,.int .i64 a2] (.bool (zlc a0 a1 a2)):=by
 generalize hR:zlc a0 a1 a2=r;unfold zlc at hR;refine di Tryz.func163 Tryz.ntmps163 Tryz.results163 ?_;intro c hL hc hk;obtain⟨hL0,hL1,hL2,_⟩:=hL;have hw0:a0.length<9223372036854775808:=Nat.lt_succ_of_le (yb hL0).1;have hw1:∀ v∈a0,bwNotice v:=fun v hv=>yi v ((yb hL0).2 v hv)
 clear hL0 hL1 hL2;simp only[pars,Nat.zero_add];iterate 2 refine rS ?_
 refine AWP.block ?_;generalize hz1:yh (ybs a0 a1 a2) (a0.length-0) 0 ()=z1 at hR;refine AWP.range (ybs a0 a1 a2) (fun i1 s1=>⟨[(0,encL 20 ye a0),(1,.int .i64 a1),(2,.int .i64 a2),(7,.int .i64 (i1:Int))],[]⟩) (fun i1 s1=>True) (a0.length) 0 () [] hz1 ot wt sm ?_;clear hz1;intro i1 s1 hi1 hW1 hz1;refine rS ?_;refine AWP.cond rfl (fun hb => ?_) (fun hb => ?_)
 ·have hlt1:i1<a0.length:=ot
  rw[yl hlt1]at hz1;simp only[ybs]at hz1;refine rS ?_;refine AWP.cond rfl (fun hb => ?_) (fun hb => ?_)
  ·simp only[hb,cond_true]at hz1
   refine rS ?_;refine AWP.ret ?_;subst hz1;dsimp only at hR;subst hR;exact es
  ·simp only[hb,cond_false]at hz1
   refine rS ?_;exact⟨_,[],hlt1,wt,hz1,sm⟩
 ·obtain rfl:i1=a0.length:=ot
  rw[yk (Nat.le_refl _)]at hz1;subst hz1;dsimp only at hR;refine AWP.exit ?_;refine yd ?_;refine rS ?_;refine AWP.ret ?_;subst hR;exact es
end N163
def D_zlc : DF
 | [x0,x1,x2]=>some (.bool (zlc (rdL yc x0) (rdI x1) (rdI x2)),false,[wL 20 ye yc x0,wI .i64 x1,wI .i64 x2])
 | _=>none
theorem y27:OkD Tryz.prog 163 D_zlc:=by unfold D_zlc;exact dk N163.den
def yuj (a0:(List Notice)) (a1:Notice) (i1:Nat) (s1:Unit):Except (Bool) (Unit):=
 (bif (((a0.getD i1 default).Number) == a1.Target)then .error ((((a0.getD i1 default).Kind) != 4) && (!(zlc a0 a1.Target 99999)))else .ok ())
def zsb (a0:(List Notice)) (a1:Notice):Bool:=
 (bif (a1.Kind != 4)then true else(match yh (yuj a0 a1) (a0.length-0) 0 ()with|.error e=>e|.ok s1=>false))
namespace N102
theorem DD:DOk Tryz.prog (Go.Ab.DD [(163,dP D_zlc)]):=ya y27.e <| yf _
abbrev dn:=@D_zlc.eq_1
theorem den (a0:(List Notice)) (a1:Notice)  : Den Tryz.prog 102 [encL 20 ye a0,.ep (ye a1)] (.bool (zsb a0 a1)):=by
 generalize hR:zsb a0 a1=r;unfold zsb at hR;refine di Tryz.func102 Tryz.ntmps102 Tryz.results102 ?_;intro c hL hc hk;obtain⟨hL0,hL1,_⟩:=hL;have hw0:a0.length<9223372036854775808:=Nat.lt_succ_of_le (yb hL0).1;have hw1:∀ v∈a0,bwNotice v:=fun v hv=>yi v ((yb hL0).2 v hv)
 have hw2:bwNotice a1:=yi a1 hL1;clear hL0 hL1;simp only[pars,Nat.zero_add];iterate 2 refine rS ?_
 refine AWP.cond rfl (fun hb => ?_) (fun hb => ?_)
 ·replace hR:=ct hR
  refine rS ?_;refine AWP.ret ?_;subst hR;exact es
 ·replace hR:=cf hR
  refine rS ?_;refine AWP.block ?_;generalize hz1:yh (yuj a0 a1) (a0.length-0) 0 ()=z1 at hR;refine AWP.range (yuj a0 a1) (fun i1 s1=>⟨[(0,encL 20 ye a0),(1,.ep (ye a1)),(5,.int .i64 (i1:Int))],[]⟩) (fun i1 s1=>True) (a0.length) 0 () [] hz1 ot wt sm ?_;clear hz1;intro i1 s1 hi1 hW1 hz1;refine rS ?_;refine AWP.cond rfl (fun hb => ?_) (fun hb => ?_)
  ·have hlt1:i1<a0.length:=ot
   rw[yl hlt1]at hz1;simp only[yuj]at hz1;refine rD 9 ?_;refine AWP.cond rfl (fun hb => ?_) (fun hb => ?_)
   ·simp only[hb,cond_true]at hz1
    refine rS ?_;refine AWP.ret ?_;subst hz1;dsimp only at hR;subst hR;exact es
   ·simp only[hb,cond_false]at hz1
    refine rS ?_;exact⟨_,[],hlt1,wt,hz1,sm⟩
  ·obtain rfl:i1=a0.length:=ot
   rw[yk (Nat.le_refl _)]at hz1;subst hz1;dsimp only at hR;refine AWP.exit ?_;refine yd ?_;refine rS ?_;refine AWP.ret ?_;subst hR;exact es
end N102
def D_zsb : DF
 | [x0,x1]=>some (.bool (zsb (rdL yc x0) (rdP yc x1)),false,[wL 20 ye yc x0,wP ye yc x1])
 | _=>none
theorem yyw:OkD Tryz.prog 102 D_zsb:=by unfold D_zsb;exact dk N102.den
def zuf (a0:Int):Bool:=
 (zg a0 0 99999)
namespace N50
theorem DD:DOk Tryz.prog (Go.Ab.DD [(49,dP D_zg)]):=ya y5e.e <| yf _
abbrev dn:=@D_zg.eq_1
abbrev ol:=@zg.eq_1
theorem den (a0:Int)  : Den Tryz.prog 50 [.int .i64 a0] (.bool (zuf a0)):=by
 generalize hR:zuf a0=r;unfold zuf at hR;refine di Tryz.func50 Tryz.ntmps50 Tryz.results50 ?_;intro c hL hc hk;clear hL;simp only[pars,Nat.zero_add];iterate 2 refine rS ?_
 refine AWP.ret ?_;subst hR;exact es
end N50
def D_zuf : DF
 | [x0]=>some (.bool (zuf (rdI x0)),false,[wI .i64 x0])
 | _=>none
theorem yb5:OkD Tryz.prog 50 D_zuf:=by unfold D_zuf;exact dk N50.den
def zag (a0:Notice):Notice:=
 { Number:=a0.Number,Day:=a0.Day,Kind:=a0.Kind,Target:=a0.Target,Aid:=zre a0.Aid:Notice }
namespace N104
theorem DD:DOk Tryz.prog (Go.Ab.DD [(100,dP D_zre)]):=ya yfo.e <| yf _
abbrev dn:=@D_zre.eq_1
theorem den (a0:Notice) (hb0:bdNotice a0):Den Tryz.prog 104 [.ep (ye a0)] (.agg (y7b (zag a0))):=by
 generalize hR:zag a0=r;unfold zag at hR;refine di Tryz.func104 Tryz.ntmps104 Tryz.results104 ?_;intro c hL hc hk;obtain⟨hL0,_⟩:=hL;have hw0:bwNotice a0:=yi a0 hL0;clear hL0;simp only[pars,Nat.zero_add];iterate 4 refine rS ?_
 refine AWP.ret ?_;subst hR;exact es
end N104
def D_zag : DF
 | [x0]=>some (.agg (y7b (zag (rdP yc x0))),false,[wP ye yc x0,bdNotice (rdP yc x0)])
 | _=>none
theorem y6w:OkD Tryz.prog 104 D_zag:=by unfold D_zag;exact dk N104.den
def yfn (a0:(List Notice)) (i1:Nat) (s1:List Notice):Except ((List Notice)) (List Notice):=
 .ok (s1++[zag (a0.getD i1 default)])
def zef (a0:(List Notice)):(List Notice):=
 (match yh (yfn a0) (a0.length-0) 0 ([]:List Notice)with|.error e=>e|.ok s1=>s1)
namespace N103
theorem DD:DOk Tryz.prog (Go.Ab.DD [(104,dP D_zag)]):=ya y6w.e <| yf _
abbrev dn:=@D_zag.eq_1
theorem den (a0:(List Notice)) (hb0:a0.length<1099511627776) (hb1:∀ v∈a0,bdNotice v) (hp0:a0.length<=1073741824):Den Tryz.prog 103 [encL 20 ye a0] (ownL 39 20 y7b (zef a0)):=by
 generalize hR:zef a0=r;unfold zef at hR;refine di Tryz.func103 Tryz.ntmps103 Tryz.results103 ?_;intro c hL hc hk;obtain⟨hL0,_⟩:=hL;have hw0:a0.length<9223372036854775808:=Nat.lt_succ_of_le (yb hL0).1;have hw1:∀ v∈a0,bwNotice v:=fun v hv=>yi v ((yb hL0).2 v hv)
 clear hL0;simp only[pars,Nat.zero_add];iterate 3 refine rS ?_
 refine AWP.block ?_;generalize hz1:yh (yfn a0) (a0.length-0) 0 ([]:List Notice)=z1 at hR;refine AWP.range (yfn a0) (fun i1 s1=>⟨[(0,encL 20 ye a0),(3,.ref 0 20 0 s1.length),(4,.int .i64 (i1:Int))],[.arr 39 20 s1.length (fun j=>y7b (s1.getD j default))]⟩) (fun i1 s1=>s1.length<=([]:List Notice).length+1 * i1) (a0.length) 0 ([]:List Notice) [0] hz1 ot wt sm ?_;clear hz1;intro i1 s1 hi1 hW1 hz1;refine rS ?_;refine AWP.cond rfl (fun hb => ?_) (fun hb => ?_)
 ·have hlt1:i1<a0.length:=ot
  rw[yl hlt1]at hz1;simp only[yfn]at hz1;iterate 2 refine rS ?_
  exact⟨_,[4],hlt1,wt,hz1,sm⟩
 ·obtain rfl:i1=a0.length:=ot
  rw[yk (Nat.le_refl _)]at hz1;subst hz1;dsimp only at hR;refine AWP.exit ?_;refine yd ?_;refine rS ?_;refine AWP.ret ?_;subst hR;exact es
end N103
def D_zef : DF
 | [x0]=>some (ownL 39 20 y7b (zef (rdL yc x0)),false,[wL 20 ye yc x0,(rdL yc x0).length<1099511627776,∀ v∈(rdL yc x0),bdNotice v,(rdL yc x0).length<=1073741824])
 | _=>none
theorem ym7:OkD Tryz.prog 103 D_zef:=by unfold D_zef;exact dk N103.den
def zzc (a0:l00Src):Int×l00Src:=
 (bif decide (a0.at_<(a0.code.length:Int))then(bif decide ((IntKind.wrap .i64 (a0.at_+1))<=(a0.code.length:Int))then(IntKind.wrap .i64 (a0.code.getD ((a0.at_).toNat) default),{ code:=a0.code,at_:=IntKind.wrap .i64 (a0.at_+1),seed:=IntKind.wrap .u64 ((IntKind.wrap .u64 ((IntKind.wrap .u64 (a0.seed * 6364136223846793005))+(IntKind.wrap .u64 (IntKind.wrap .i64 (a0.code.getD ((a0.at_).toNat) default)))))+1442695040888963407):l00Src })else(IntKind.wrap .i64 (IntKind.wrap .u64 (BitVec.ofInt (IntKind.bits .u64) ((IntKind.wrap .u64 ((IntKind.wrap .u64 ((IntKind.wrap .u64 (a0.seed * 6364136223846793005))+(IntKind.wrap .u64 (IntKind.wrap .i64 (a0.code.getD ((a0.at_).toNat) default)))))+1442695040888963407)).fdiv (2 ^ (Min.min 40 (IntKind.bits .u64)))) &&& BitVec.ofInt (IntKind.bits .u64) 255).toNat),{ code:=a0.code,at_:=IntKind.wrap .i64 (a0.at_+1),seed:=IntKind.wrap .u64 ((IntKind.wrap .u64 ((IntKind.wrap .u64 (a0.seed * 6364136223846793005))+(IntKind.wrap .u64 (IntKind.wrap .i64 (a0.code.getD ((a0.at_).toNat) default)))))+1442695040888963407):l00Src }))else(bif decide ((IntKind.wrap .i64 (a0.at_+1))<=(a0.code.length:Int))then(0,{ code:=a0.code,at_:=IntKind.wrap .i64 (a0.at_+1),seed:=IntKind.wrap .u64 ((IntKind.wrap .u64 ((IntKind.wrap .u64 (a0.seed * 6364136223846793005))+(IntKind.wrap .u64 0)))+1442695040888963407):l00Src })else(IntKind.wrap .i64 (IntKind.wrap .u64 (BitVec.ofInt (IntKind.bits .u64) ((IntKind.wrap .u64 ((IntKind.wrap .u64 ((IntKind.wrap .u64 (a0.seed * 6364136223846793005))+(IntKind.wrap .u64 0)))+1442695040888963407)).fdiv (2 ^ (Min.min 40 (IntKind.bits .u64)))) &&& BitVec.ofInt (IntKind.bits .u64) 255).toNat),{ code:=a0.code,at_:=IntKind.wrap .i64 (a0.at_+1),seed:=IntKind.wrap .u64 ((IntKind.wrap .u64 ((IntKind.wrap .u64 (a0.seed * 6364136223846793005))+(IntKind.wrap .u64 0)))+1442695040888963407):l00Src })))
namespace N90
theorem DD:DOk Tryz.prog (Go.Ab.DD []):=yf _
theorem o1 {p:Prop} (h:p:=by(first|(refine SrcOk.mono (by repeat' first|assumption|exact SrcOk.next ‹_› | apply SrcOk.next|apply SrcOk.pick|apply SrcOk.among|apply SrcOk.text|apply SrcOk.name|apply SrcOk.drawName|apply SrcOk.word|apply SrcOk.entry|apply SrcOk.base|omega) (by omega)));first|done|fail):p:=h
theorem den (a0:l00Src) (hp0:SrcOk 1000000 a0):DenM Tryz.prog 90 [.op (yu a0)] (.int .i64 ((zzc a0).1)) [(.op (yu ((zzc a0).2)))]:=by
 generalize hR:zzc a0=r;unfold zzc at hR;refine dj (gb:=[true]) Tryz.func90 Tryz.ntmps90 Tryz.results90 ?_;intro c hL hc hk;obtain⟨hL0,_⟩:=hL;have hw0:bwl00Src a0:=ygb a0 hL0;clear hL0;simp only[adEL,adE,adRL,adR,ownL,encL,sv,List.nil_append,List.append_nil,List.cons_append,List.length_cons,List.length_nil,pars,Nat.zero_add,Nat.reduceAdd]at hk ⊢;have hp1:=hp0.lo;have hp2:=hp0.hi;iterate 2 refine rS ?_
 refine rD 10 ?_;refine AWP.cond rfl (fun hb => ?_) (fun hb => ?_)
 ·replace hR:=ct hR
  refine rD 11 ?_;iterate 2 refine rS ?_
  refine rD 10 ?_;refine AWP.cond rfl (fun hb => ?_) (fun hb => ?_)
  ·replace hR:=ct hR
   refine rS ?_;refine AWP.ret ?_;subst hR;exact es
  ·replace hR:=cf hR
   refine rS ?_;refine AWP.ret ?_;subst hR;exact es
 ·replace hR:=cf hR
  iterate 2 refine rS ?_
  refine rD 10 ?_;refine AWP.cond rfl (fun hb => ?_) (fun hb => ?_)
  ·replace hR:=ct hR
   refine rS ?_;refine AWP.ret ?_;subst hR;exact es
  ·replace hR:=cf hR
   refine rS ?_;refine AWP.ret ?_;subst hR;exact es
end N90
def D_zzc : List AV -> Option (AV × List AV × List Prop)
 | [x0]=>some (.int .i64 ((zzc (rdQ yw x0)).1),[(.op (yu ((zzc (rdQ yw x0)).2)))],[wQ yu yw x0,SrcOk 1000000 (rdQ yw x0)])
 | _=>none
theorem yz3:OkM Tryz.prog 90 D_zzc:=by unfold D_zzc;exact dm N90.den
theorem yiw {n:Int} {s:l00Src} (h:SrcOk n s) (hn:n<=4000000000):0<=(zzc s).1/\(zzc s).1<=255:=by
 have h1:=h.lo;have h2:=h.hi;have hb:0<=s.code.getD s.at_.toNat default/\s.code.getD s.at_.toNat default<=255:=ykf (p:=fun v=>0<=v/\v<=255) h.by_ (by decide) _
 have hand:∀ x:Int,0<=((BitVec.ofInt (IntKind.bits .u64) x &&& BitVec.ofInt (IntKind.bits .u64) 255).toNat:Int)/\((BitVec.ofInt (IntKind.bits .u64) x &&& BitVec.ofInt (IntKind.bits .u64) 255).toNat:Int)<=255:=by
  intro x;refine⟨Int.natCast_nonneg _,?_⟩;rw[BitVec.toNat_and];have:=Nat.and_le_right (n:=(BitVec.ofInt (IntKind.bits .u64) x).toNat) (m:=(BitVec.ofInt (IntKind.bits .u64) 255).toNat);have e:(BitVec.ofInt (IntKind.bits .u64) 255).toNat=255:=by decide
  omega
 have hw:∀ y:Int,0<=y->y<=255->IntKind.wrap .i64 (IntKind.wrap .u64 y)=y:=by
  intro y _ _
  have:IntKind.wrap .u64 y=y:=by
   simp[IntKind.wrap,IntKind.bits,IntKind.signed];omega
  rw[this,IntKind.wrap_i64];omega
 unfold zzc;simp only[Bool.cond_eq_ite];repeat' split
 all_goals first
  | (simp only[IntKind.wrap_i64];omega)
  | (rw[hw _ (hand _).1 (hand _).2];exact hand _)
theorem SrcOk.next {n:Int} {s:l00Src} (h:SrcOk n s) (hn:n<=4000000000):SrcOk (n+1) (zzc s).2:=by
 have h1:=h.lo;have h2:=h.hi;unfold zzc;simp only[Bool.cond_eq_ite];repeat' split
 all_goals exact⟨by simp only[IntKind.wrap_i64];omega,by simp only[IntKind.wrap_i64];omega,h.by_⟩
def za (a0:l00Src) (a1:Int):Int×l00Src:=
 (bif decide (a1<=1)then(0,a0)else(bif decide (200<a1)then((IntKind.wrap .i64 ((IntKind.wrap .i64 (((zzc a0).1) * 256))+((zzc ((zzc a0).2)).1))).tmod a1,(zzc ((zzc a0).2)).2)else(((zzc a0).1).tmod a1,(zzc a0).2)))
namespace N45
theorem DD:DOk Tryz.prog (Go.Ab.DD [(90,dM [true] D_zzc)]):=ya yz3.e <| yf _
abbrev dn:=@D_zzc.eq_1
theorem o1 {p:Prop} (h:p:=by(first|(refine SrcOk.mono (by repeat' first|assumption|exact SrcOk.next ‹_› | apply SrcOk.next|apply SrcOk.pick|apply SrcOk.among|apply SrcOk.text|apply SrcOk.name|apply SrcOk.drawName|apply SrcOk.word|apply SrcOk.entry|apply SrcOk.base|omega) (by omega)));first|done|fail):p:=h
theorem den (a0:l00Src) (a1:Int) (hp0:SrcOk 900000 a0):DenM Tryz.prog 45 [.op (yu a0),.int .i64 a1] (.int .i64 ((za a0 a1).1)) [(.op (yu ((za a0 a1).2))),.any]:=by
 generalize hR:za a0 a1=r;unfold za at hR;refine dj (gb:=[true,false]) Tryz.func45 Tryz.ntmps45 Tryz.results45 ?_;intro c hL hc hk;obtain⟨hL0,hL1,_⟩:=hL;have hw0:bwl00Src a0:=ygb a0 hL0;clear hL0 hL1;simp only[adEL,adE,adRL,adR,ownL,encL,sv,List.nil_append,List.append_nil,List.cons_append,List.length_cons,List.length_nil,pars,Nat.zero_add,Nat.reduceAdd]at hk ⊢;iterate 2 refine rS ?_
 refine AWP.cond rfl (fun hb => ?_) (fun hb => ?_)
 ·replace hR:=ct hR
  refine rS ?_;refine AWP.ret ?_;subst hR;exact es
 ·replace hR:=cf hR
  iterate 2 refine rS ?_
  refine AWP.cond rfl (fun hb => ?_) (fun hb => ?_)
  ·replace hR:=ct hR
   iterate 2 refine rS ?_
   refine AWP.ret ?_;subst hR;exact es
  ·replace hR:=cf hR
   refine rS ?_;refine AWP.ret ?_;subst hR;exact es
end N45
def D_za : List AV -> Option (AV × List AV × List Prop)
 | [x0,x1]=>some (.int .i64 ((za (rdQ yw x0) (rdI x1)).1),[(.op (yu ((za (rdQ yw x0) (rdI x1)).2))),.any],[wQ yu yw x0,wI .i64 x1,SrcOk 900000 (rdQ yw x0)])
 | _=>none
theorem yme:OkM Tryz.prog 45 D_za:=by unfold D_za;exact dm N45.den
theorem yq {n:Int} {s:l00Src} (m:Int) (h:SrcOk n s) (hn:n<=2000000000):0<=(za s m).1/\(1<=m->(za s m).1<m):=by
 have v1:=yiw h (by omega);have v2:=yiw (h.next (by omega)) (by omega);unfold za;simp only[Bool.cond_eq_ite,decide_eq_true_eq];repeat' split
 ·simp;omega
 ·have hx:0<=IntKind.wrap .i64 (IntKind.wrap .i64 ((zzc s).1 * 256)+(zzc (zzc s).2).1):=by
   simp only[IntKind.wrap_i64];omega
  exact⟨Int.tmod_nonneg _ hx,fun _=>Int.tmod_lt_of_pos _ (by omega)⟩
 ·exact⟨Int.tmod_nonneg _ v1.1,fun _=>Int.tmod_lt_of_pos _ (by omega)⟩
theorem SrcOk.pick {n:Int} {s:l00Src} {m:Int} (h:SrcOk n s) (hn:n<=2000000000):SrcOk (n+2) (za s m).2:=by
 unfold za;simp only[Bool.cond_eq_ite,decide_eq_true_eq];repeat' split
 ·exact h.mono (by omega)
 ·have:=(h.next (by omega)).next (by omega)
  exact this.mono (by omega)
 ·exact(h.next (by omega)).mono (by omega)
def zk (a0:l00Src) (a1:(List Int)):Int×l00Src:=
 ((a1.getD ((((za a0 (a1.length:Int)).1)).toNat) default),(za a0 (a1.length:Int)).2)
namespace N96
theorem DD:DOk Tryz.prog (Go.Ab.DD [(45,dM [true,false] D_za)]):=ya yme.e <| yf _
abbrev dn:=@D_za.eq_1
theorem o1 {p:Prop} (h:p:=by(first|(refine SrcOk.mono (by repeat' first|assumption|exact SrcOk.next ‹_› | apply SrcOk.next|apply SrcOk.pick|apply SrcOk.among|apply SrcOk.text|apply SrcOk.name|apply SrcOk.drawName|apply SrcOk.word|apply SrcOk.entry|apply SrcOk.base|omega) (by omega)));first|done|fail):p:=h
theorem den (a0:l00Src) (a1:(List Int)) (hp0:SrcOk 800000 a0) (hp1:1<=a1.length):DenM Tryz.prog 96 [.op (yu a0),ownL 2 1 yx a1] (.int .i64 ((zk a0 a1).1)) [(.op (yu ((zk a0 a1).2))),.any]:=by
 generalize hR:zk a0 a1=r;unfold zk at hR;refine dj (gb:=[true,false]) Tryz.func96 Tryz.ntmps96 Tryz.results96 ?_;intro c hL hc hk;obtain⟨hL0,hL1,_⟩:=hL;have hw0:bwl00Src a0:=ygb a0 hL0;have hw1:a1.length<9223372036854775808:=Nat.lt_succ_of_le (yil hL1).1;clear hL0 hL1;simp only[adEL,adE,adRL,adR,ownL,encL,sv,List.nil_append,List.append_nil,List.cons_append,List.length_cons,List.length_nil,pars,Nat.zero_add,Nat.reduceAdd]at hk ⊢;have hr:=yq (a1.length:Int) hp0 (by omega);iterate 2 refine rS ?_
 refine AWP.ret ?_;subst hR;exact es
end N96
def D_zk : List AV -> Option (AV × List AV × List Prop)
 | [x0,x1]=>some (.int .i64 ((zk (rdQ yw x0) (rdL ynb x1)).1),[(.op (yu ((zk (rdQ yw x0) (rdL ynb x1)).2))),.any],[wQ yu yw x0,wO 2 1 yx ynb x1,SrcOk 800000 (rdQ yw x0),1<=(rdL ynb x1).length])
 | _=>none
theorem yqu:OkM Tryz.prog 96 D_zk:=by unfold D_zk;exact dm N96.den
theorem SrcOk.among {n:Int} {s:l00Src} {l} (h:SrcOk n s) (hn:n<=2000000000):SrcOk (n+2) (zk s l).2:=by
 unfold zk;exact h.pick hn
def zr (a0:l00Src) (a1:(List (List UInt8))):(List UInt8)×l00Src:=
 ((a1.getD ((((za a0 (a1.length:Int)).1)).toNat) default),(za a0 (a1.length:Int)).2)
namespace N91
theorem DD:DOk Tryz.prog (Go.Ab.DD [(45,dM [true,false] D_za)]):=ya yme.e <| yf _
abbrev dn:=@D_za.eq_1
theorem o1 {p:Prop} (h:p:=by(first|(refine SrcOk.mono (by repeat' first|assumption|exact SrcOk.next ‹_› | apply SrcOk.next|apply SrcOk.pick|apply SrcOk.among|apply SrcOk.text|apply SrcOk.name|apply SrcOk.drawName|apply SrcOk.word|apply SrcOk.entry|apply SrcOk.base|omega) (by omega)));first|done|fail):p:=h
theorem den (a0:l00Src) (a1:(List (List UInt8))) (hp0:SrcOk 800000 a0) (hp1:1<=a1.length):DenM Tryz.prog 91 [.op (yu a0),ownL 9 1 eS a1] (.str ((zr a0 a1).1)) [(.op (yu ((zr a0 a1).2))),.any]:=by
 generalize hR:zr a0 a1=r;unfold zr at hR;refine dj (gb:=[true,false]) Tryz.func91 Tryz.ntmps91 Tryz.results91 ?_;intro c hL hc hk;obtain⟨hL0,hL1,_⟩:=hL;have hw0:bwl00Src a0:=ygb a0 hL0;have hw1:a1.length<9223372036854775808:=Nat.lt_succ_of_le (yil hL1).1;have hw2:∀ v∈a1,bwS v:=fun v hv=>ycw v ((yil hL1).2 v hv)
 clear hL0 hL1;simp only[adEL,adE,adRL,adR,ownL,encL,sv,List.nil_append,List.append_nil,List.cons_append,List.length_cons,List.length_nil,pars,Nat.zero_add,Nat.reduceAdd]at hk ⊢;have hr:=yq (a1.length:Int) hp0 (by omega);iterate 2 refine rS ?_
 refine AWP.ret ?_;subst hR;exact es
end N91
def D_zr : List AV -> Option (AV × List AV × List Prop)
 | [x0,x1]=>some (.str ((zr (rdQ yw x0) (rdL dS x1)).1),[(.op (yu ((zr (rdQ yw x0) (rdL dS x1)).2))),.any],[wQ yu yw x0,wO 9 1 eS dS x1,SrcOk 800000 (rdQ yw x0),1<=(rdL dS x1).length])
 | _=>none
theorem y6u:OkM Tryz.prog 91 D_zr:=by unfold D_zr;exact dm N91.den
theorem SrcOk.text {n:Int} {s:l00Src} {l} (h:SrcOk n s) (hn:n<=2000000000):SrcOk (n+2) (zr s l).2:=by
 unfold zr;exact h.pick hn
def zn (a0:l00Src) (a1:Int):Bool×l00Src:=
 ((((za a0 a1).1) == 0),(za a0 a1).2)
namespace N93
theorem DD:DOk Tryz.prog (Go.Ab.DD [(45,dM [true,false] D_za)]):=ya yme.e <| yf _
abbrev dn:=@D_za.eq_1
theorem o1 {p:Prop} (h:p:=by(first|(refine SrcOk.mono (by repeat' first|assumption|exact SrcOk.next ‹_› | apply SrcOk.next|apply SrcOk.pick|apply SrcOk.among|apply SrcOk.text|apply SrcOk.name|apply SrcOk.drawName|apply SrcOk.word|apply SrcOk.entry|apply SrcOk.base|omega) (by omega)));first|done|fail):p:=h
theorem den (a0:l00Src) (a1:Int) (hp0:SrcOk 800000 a0):DenM Tryz.prog 93 [.op (yu a0),.int .i64 a1] (.bool ((zn a0 a1).1)) [(.op (yu ((zn a0 a1).2))),.any]:=by
 generalize hR:zn a0 a1=r;unfold zn at hR;refine dj (gb:=[true,false]) Tryz.func93 Tryz.ntmps93 Tryz.results93 ?_;intro c hL hc hk;obtain⟨hL0,hL1,_⟩:=hL;have hw0:bwl00Src a0:=ygb a0 hL0;clear hL0 hL1;simp only[adEL,adE,adRL,adR,ownL,encL,sv,List.nil_append,List.append_nil,List.cons_append,List.length_cons,List.length_nil,pars,Nat.zero_add,Nat.reduceAdd]at hk ⊢;iterate 2 refine rS ?_
 refine AWP.ret ?_;subst hR;exact es
end N93
def D_zn : List AV -> Option (AV × List AV × List Prop)
 | [x0,x1]=>some (.bool ((zn (rdQ yw x0) (rdI x1)).1),[(.op (yu ((zn (rdQ yw x0) (rdI x1)).2))),.any],[wQ yu yw x0,wI .i64 x1,SrcOk 800000 (rdQ yw x0)])
 | _=>none
theorem yip:OkM Tryz.prog 93 D_zn:=by unfold D_zn;exact dm N93.den
theorem SrcOk.one {n:Int} {s:l00Src} {m:Int} (h:SrcOk n s) (hn:n<=2000000000):SrcOk (n+2) (zn s m).2:=by
 unfold zn;exact h.pick hn
def zac (a0:l00Src):(List UInt8)×l00Src:=
 (((zr a0 ([[87],[87],[82],[71],[89],[87,82],[82,71],[87,82,71],[87,71]]:List (List UInt8))).1),(zr a0 ([[87],[87],[82],[71],[89],[87,82],[82,71],[87,82,71],[87,71]]:List (List UInt8))).2)
namespace N157
theorem DD:DOk Tryz.prog (Go.Ab.DD [(91,dM [true,true] D_zr)]):=ya y6u.e <| yf _
abbrev dn:=@D_zr.eq_1
theorem o1 {p:Prop} (h:p:=by(first|(refine SrcOk.mono (by repeat' first|assumption|exact SrcOk.next ‹_› | apply SrcOk.next|apply SrcOk.pick|apply SrcOk.one|apply SrcOk.among|apply SrcOk.text|apply SrcOk.colors|apply SrcOk.point|apply SrcOk.chr|apply SrcOk.sectors|apply SrcOk.aid|apply SrcOk.aids|apply SrcOk.notice|omega) (by omega)));first|done|fail):p:=h
theorem lx {p:Prop} (h:p:=by(exact lxx);first|done|fail):p:=h
set_option maxHeartbeats 2000000 in
set_option maxRecDepth 20000 in
theorem den (a0:l00Src) (hp0:SrcOk 700000 a0):DenM Tryz.prog 157 [.op (yu a0)] (.str ((zac a0).1)) [(.op (yu ((zac a0).2)))]:=by
 generalize hR:zac a0=r;unfold zac at hR;refine dj (gb:=[true]) Tryz.func157 Tryz.ntmps157 Tryz.results157 ?_;intro c hL hc hk;obtain⟨hL0,_⟩:=hL;have hw0:bwl00Src a0:=ygb a0 hL0;clear hL0;simp only[adEL,adE,adRL,adR,ownL,encL,sv,List.nil_append,List.append_nil,List.cons_append,List.length_cons,List.length_nil,pars,Nat.zero_add,Nat.reduceAdd]at hk ⊢;iterate 2 refine rS ?_
 refine AWP.ret ?_;subst hR;exact es
end N157
def D_zac : List AV -> Option (AV × List AV × List Prop)
 | [x0]=>some (.str ((zac (rdQ yw x0)).1),[(.op (yu ((zac (rdQ yw x0)).2)))],[wQ yu yw x0,SrcOk 700000 (rdQ yw x0)])
 | _=>none
theorem yt6:OkM Tryz.prog 157 D_zac:=by unfold D_zac;exact dm N157.den
theorem SrcOk.colors {n:Int} {s:l00Src} (h:SrcOk n s) (hn:n<=2000000000):SrcOk (n+2) (zac s).2:=by
 unfold zac;exact h.text hn
def zte (a0:Int) (a1:Int):Int:=
 (bif decide (a0<a1)then a0 else a1)
namespace N161
theorem DD:DOk Tryz.prog (Go.Ab.DD []):=yf _
theorem den (a0:Int) (a1:Int)  : Den Tryz.prog 161 [.int .i64 a0,.int .i64 a1] (.int .i64 (zte a0 a1)):=by
 generalize hR:zte a0 a1=r;unfold zte at hR;refine di Tryz.func161 Tryz.ntmps161 Tryz.results161 ?_;intro c hL hc hk;clear hL;simp only[pars,Nat.zero_add];iterate 2 refine rS ?_
 refine AWP.cond rfl (fun hb => ?_) (fun hb => ?_)
 ·replace hR:=ct hR
  refine rS ?_;refine AWP.ret ?_;subst hR;exact es
 ·replace hR:=cf hR
  refine rS ?_;refine AWP.ret ?_;subst hR;exact es
end N161
def D_zte : DF
 | [x0,x1]=>some (.int .i64 (zte (rdI x0) (rdI x1)),false,[wI .i64 x0,wI .i64 x1])
 | _=>none
theorem y84:OkD Tryz.prog 161 D_zte:=by unfold D_zte;exact dk N161.den
def y5t (a0:l00Src) (q2:l00Src) (q8:l00Src) (q10:l00Src) (s1:Int×Int×l00Src×List Sector):Except (Sum ((List Sector)×l00Src) (Int×Int×l00Src×List Sector)) (Int×Int×l00Src×List Sector):=
 (bif decide (0<s1.2.1)then(bnd ((za s1.2.2.1 70).2) fun q20=>(bif (decide ((IntKind.wrap .i64 (((za q2 60).1)+360))<(IntKind.wrap .i64 (s1.1+(IntKind.wrap .i64 (((za s1.2.2.1 70).1)+1))))) || decide (359<s1.1))then .error (.inr (s1.1,s1.2.1,q20,s1.2.2.2))else(bnd ((zr q20 [[87],[82],[71],[89]]).2) fun q22=>(bnd ((zn q22 2).2) fun q24=>(bif ((zn q22 2).1)then(bnd ((za q24 40).2) fun q26=>.ok (IntKind.wrap .i64 ((IntKind.wrap .i64 (s1.1+(IntKind.wrap .i64 (((za s1.2.2.1 70).1)+1))))+((za q24 40).1)),IntKind.wrap .i64 (s1.2.1-1),q26,s1.2.2.2++[{ From:=s1.1,To:=(IntKind.wrap .i64 (s1.1+(IntKind.wrap .i64 (((za s1.2.2.1 70).1)+1)))).tmod 360,Color:=((zr q20 [[87],[82],[71],[89]]).1):Sector }]))else .ok (IntKind.wrap .i64 (s1.1+(IntKind.wrap .i64 (((za s1.2.2.1 70).1)+1))),IntKind.wrap .i64 (s1.2.1-1),q24,s1.2.2.2++[{ From:=s1.1,To:=(IntKind.wrap .i64 (s1.1+(IntKind.wrap .i64 (((za s1.2.2.1 70).1)+1)))).tmod 360,Color:=((zr q20 [[87],[82],[71],[89]]).1):Sector }]))))))else .error (.inr (s1.1,s1.2.1,s1.2.2.1,s1.2.2.2)))
def zt (a0:l00Src):(List Sector)×l00Src:=
 (bnd ((za a0 6).2) fun q2=>(bif (((za a0 6).1) == 0)then(([]:List Sector),q2)else(bif (((za a0 6).1) == 1)then(bnd ((za q2 360).2) fun q4=>(bnd ((zr q4 [[87],[82],[71],[89]]).2) fun q6=>([{ From:=((za q2 360).1),To:=((za q2 360).1),Color:=((zr q4 [[87],[82],[71],[89]]).1):Sector }],q6)))else(bnd ((za q2 60).2) fun q8=>(bnd ((za q8 5).2) fun q10=>(match yeb (y5t a0 q2 q8 q10) ((((IntKind.wrap .i64 (((za q8 5).1)+1))).toNat)+1) (((za q2 60).1),IntKind.wrap .i64 (((za q8 5).1)+1),q10,([]:List Sector))with|.error (.inl e)=>e|.error (.inr s1)=>(s1.2.2.2,s1.2.2.1)|.ok _=>default))))))
namespace N97
theorem DD:DOk Tryz.prog (Go.Ab.DD [(45,dM [true,false] D_za),(91,dM [true,true] D_zr),(93,dM [true,false] D_zn)]):=ya yme.e <| ya y6u.e <| ya yip.e <| yf _
abbrev dn:=cj @D_za.eq_1 <| cj @D_zr.eq_1 <| @D_zn.eq_1
theorem o1 {p:Prop} (h:p:=by(first|(refine SrcOk.mono (by repeat' first|assumption|exact SrcOk.next ‹_› | apply SrcOk.next|apply SrcOk.pick|apply SrcOk.one|apply SrcOk.among|apply SrcOk.text|apply SrcOk.colors|apply SrcOk.point|apply SrcOk.chr|apply SrcOk.sectors|apply SrcOk.aid|apply SrcOk.aids|apply SrcOk.notice|omega) (by omega))|(exact SrcOk.mono hW1.2.2.1 (by omega)));first|done|fail):p:=h
theorem o2 {p:Prop} (h:p:=by(first|((repeat' with_reducible apply And.intro)<;>first|(simp only[List.length_append,List.length_singleton];(first|done|fail))|(rw[IntKind.wrap_i64];omega)|(intro j hj;by_cases hji:j<s1.2.2.2.length;(focus(simp only[ypn hji,ykr hji,cond_true];first|(first|done|fail)|with_reducible rfl));(have e0:j-s1.2.2.2.length=0:=by omega);(simp only[ynn hji hj,yst hji,cond_false,e0,elt,y0,ycb];first|(first|done|fail)|with_reducible rfl))|decide));first|done|fail):p:=h
theorem lx {p:Prop} (h:p:=by(exact lxx);first|done|fail):p:=h
set_option maxHeartbeats 2000000 in
set_option maxRecDepth 20000 in
theorem den (a0:l00Src) (hp0:SrcOk 600000 a0):DenM Tryz.prog 97 [.op (yu a0)] (ownL 144 3 yr ((zt a0).1)) [(.op (yu ((zt a0).2)))]:=by
 generalize hR:zt a0=r;unfold zt at hR;refine dj (gb:=[true]) Tryz.func97 Tryz.ntmps97 Tryz.results97 ?_;intro c hL hc hk;obtain⟨hL0,_⟩:=hL;have hw0:bwl00Src a0:=ygb a0 hL0;clear hL0;simp only[adEL,adE,adRL,adR,ownL,encL,sv,List.nil_append,List.append_nil,List.cons_append,List.length_cons,List.length_nil,pars,Nat.zero_add,Nat.reduceAdd]at hk ⊢;iterate 3 refine rS ?_
 generalize hq2:(za a0 6).2=q2 at hR ⊢;replace hR:=bn hR;have hS_q2:SrcOk (600002) q2:=by rw[<- hq2];exact SrcOk.pick hp0 (by omega)
 refine rS ?_;refine AWP.cond rfl (fun hb => ?_) (fun hb => ?_)
 ·replace hR:=ct hR
  refine rS ?_;refine AWP.ret ?_;subst hR;exact es
 ·replace hR:=cf hR
  refine rS ?_;refine AWP.cond rfl (fun hb => ?_) (fun hb => ?_)
  ·replace hR:=ct hR
   refine rS ?_;generalize hq4:(za q2 360).2=q4 at hR ⊢;replace hR:=bn hR;have hS_q4:SrcOk (600004) q4:=by rw[<- hq4];exact SrcOk.pick hS_q2 (by omega)
   refine rS ?_;generalize hq6:(zr q4 [[87],[82],[71],[89]]).2=q6 at hR ⊢;replace hR:=bn hR;have hS_q6:SrcOk (600006) q6:=by rw[<- hq6];exact SrcOk.text hS_q4 (by omega)
   refine AWP.ret ?_;subst hR;exact es
  ·replace hR:=cf hR
   refine rS ?_;generalize hq8:(za q2 60).2=q8 at hR ⊢;replace hR:=bn hR;have hS_q8:SrcOk (600004) q8:=by rw[<- hq8];exact SrcOk.pick hS_q2 (by omega)
   iterate 2 refine rS ?_
   generalize hq10:(za q8 5).2=q10 at hR ⊢;replace hR:=bn hR;have hS_q10:SrcOk (600006) q10:=by rw[<- hq10];exact SrcOk.pick hS_q8 (by omega)
   refine AWP.block ?_;generalize hz1:yeb (y5t a0 q2 q8 q10) ((((IntKind.wrap .i64 (((za q8 5).1)+1))).toNat)+1) (((za q2 60).1),IntKind.wrap .i64 (((za q8 5).1)+1),q10,([]:List Sector))=z1 at hR;refine AWP.whileW (y5t a0 q2 q8 q10) (fun s1=>⟨[(0,.ptr 0 0),(3,.ref 1 3 0 s1.2.2.2.length),(5,.int .i64 s1.1),(6,.int .i64 ((za q2 60).1)),(7,.int .i64 s1.2.1)],[.box [encL 1 eIu8 s1.2.2.1.code,.int .i64 s1.2.2.1.at_,.int .u64 s1.2.2.1.seed],.arr 144 3 s1.2.2.2.length (fun j=>yr (s1.2.2.2.getD j default))]⟩) (fun s1=>0<=s1.2.1/\s1.2.1<=5/\SrcOk (600040+20 * (5-s1.2.1)) s1.2.2.1/\s1.2.2.2.length<=(5-s1.2.1).toNat) (fun s1=>(s1.2.1).toNat) ((((IntKind.wrap .i64 (((za q8 5).1)+1))).toNat)+1) (((za q2 60).1),IntKind.wrap .i64 (((za q8 5).1)+1),q10,([]:List Sector)) [0,1] hz1 m0 (by(have h2:=yq 5 hS_q8 (by omega);have h3:=h2.2 (by omega);have hwr:IntKind.wrap .i64 (((za q8 5).1)+1)=((za q8 5).1)+1:=(by rw[IntKind.wrap_i64];omega);simp only[hwr];exact⟨by omega,by omega,SrcOk.mono (by assumption) (by omega),by simp⟩)) sm ?_;clear hz1;intro s1 k1 hW1 hm1 hz1;simp only[y5t]at hz1;refine rS ?_;refine AWP.cond rfl (fun hb => ?_) (fun hb => ?_)
   ·simp only[hb,cond_true]at hz1
    refine rS ?_;generalize hq20:(za s1.2.2.1 70).2=q20 at hz1 ⊢;rw[bndv q20]at hz1;have hS_q20:SrcOk (600040+20 * (5-s1.2.1)+2) q20:=by rw[<- hq20];exact SrcOk.pick hW1.2.2.1 (by omega)
    refine rS ?_;refine AWP.cond rfl (fun hb => ?_) (fun hb => ?_)
    ·simp only[hb,cond_true]at hz1
     refine AWP.exit ?_;refine ywj rfl ?_;refine yd ?_;subst hz1;dsimp only at hR;refine rS ?_;refine AWP.ret ?_;subst hR;exact es
    ·simp only[hb,cond_false]at hz1
     iterate 2 refine rS ?_
     generalize hq22:(zr q20 [[87],[82],[71],[89]]).2=q22 at hz1 ⊢;rw[bndv q22]at hz1;have hS_q22:SrcOk (600040+20 * (5-s1.2.1)+2+2) q22:=by rw[<- hq22];exact SrcOk.text hS_q20 (by omega)
     iterate 3 refine rS ?_
     generalize hq24:(zn q22 2).2=q24 at hz1 ⊢;rw[bndv q24]at hz1;have hS_q24:SrcOk (600040+20 * (5-s1.2.1)+2+2+2) q24:=by rw[<- hq24];exact SrcOk.one hS_q22 (by omega)
     refine AWP.cond rfl (fun hb => ?_) (fun hb => ?_)
     ·simp only[hb,cond_true]at hz1
      refine rS ?_;generalize hq26:(za q24 40).2=q26 at hz1 ⊢;rw[bndv q26]at hz1;have hS_q26:SrcOk (600040+20 * (5-s1.2.1)+2+2+2+2) q26:=by rw[<- hq26];exact SrcOk.pick hS_q24 (by omega)
      refine rS ?_;clear hR;exact⟨_,[0,5],by(have hpos:0<s1.2.1:=of_decide_eq_true (by assumption);have hwr:IntKind.wrap .i64 (s1.2.1-1)=s1.2.1-1:=(by rw[IntKind.wrap_i64];omega);(try dsimp only);rw[hwr];omega),by(have hpos:0<s1.2.1:=of_decide_eq_true (by assumption);have hwr:IntKind.wrap .i64 (s1.2.1-1)=s1.2.1-1:=(by rw[IntKind.wrap_i64];omega);(try dsimp only);rw[hwr];have hG:=hW1.2.2.2;exact⟨by omega,by omega,SrcOk.mono (by assumption) (by omega),by simp only[List.length_append,List.length_cons,List.length_nil];omega⟩),hz1,sm⟩
     ·simp only[hb,cond_false]at hz1
      refine rS ?_;clear hR;exact⟨_,[0,5],by(have hpos:0<s1.2.1:=of_decide_eq_true (by assumption);have hwr:IntKind.wrap .i64 (s1.2.1-1)=s1.2.1-1:=(by rw[IntKind.wrap_i64];omega);(try dsimp only);rw[hwr];omega),by(have hpos:0<s1.2.1:=of_decide_eq_true (by assumption);have hwr:IntKind.wrap .i64 (s1.2.1-1)=s1.2.1-1:=(by rw[IntKind.wrap_i64];omega);(try dsimp only);rw[hwr];have hG:=hW1.2.2.2;exact⟨by omega,by omega,SrcOk.mono (by assumption) (by omega),by simp only[List.length_append,List.length_cons,List.length_nil];omega⟩),hz1,sm⟩
   ·simp only[hb,cond_false]at hz1
    refine AWP.exit ?_;refine yd ?_;subst hz1;dsimp only at hR;refine rS ?_;refine AWP.ret ?_;subst hR;exact es
end N97
def D_zt : List AV -> Option (AV × List AV × List Prop)
 | [x0]=>some (ownL 144 3 yr ((zt (rdQ yw x0)).1),[(.op (yu ((zt (rdQ yw x0)).2)))],[wQ yu yw x0,SrcOk 600000 (rdQ yw x0)])
 | _=>none
theorem y49:OkM Tryz.prog 97 D_zt:=by unfold D_zt;exact dm N97.den
def zwb (a0:l00Src):Point×l00Src:=
 (bnd ((zk a0 ([20,100,100,100]:List Int)).2) fun q2=>(bnd ((za q2 ((zk a0 ([20,100,100,100]:List Int)).1)).2) fun q4=>(bnd ((za q4 ((zk a0 ([20,100,100,100]:List Int)).1)).2) fun q6=>(bnd ((zn q6 3).2) fun q8=>(bif ((zn q6 3).1)then(bnd ((za q8 200).2) fun q10=>(bnd ((zn q10 3).2) fun q12=>(bif ((zn q10 3).1)then(bnd ((za q12 200).2) fun q14=>({ X:=IntKind.wrap .i64 ((IntKind.wrap .i64 (10000+(IntKind.wrap .i64 (((za q2 ((zk a0 ([20,100,100,100]:List Int)).1)).1) * 100))))+((za q8 200).1)),Y:=IntKind.wrap .i64 ((IntKind.wrap .i64 (10000+(IntKind.wrap .i64 (((za q4 ((zk a0 ([20,100,100,100]:List Int)).1)).1) * 100))))+((za q12 200).1)):Point },q14))else({ X:=IntKind.wrap .i64 ((IntKind.wrap .i64 (10000+(IntKind.wrap .i64 (((za q2 ((zk a0 ([20,100,100,100]:List Int)).1)).1) * 100))))+((za q8 200).1)),Y:=IntKind.wrap .i64 (10000+(IntKind.wrap .i64 (((za q4 ((zk a0 ([20,100,100,100]:List Int)).1)).1) * 100))):Point },q12))))else(bnd ((zn q8 3).2) fun q16=>(bif ((zn q8 3).1)then(bnd ((za q16 200).2) fun q18=>({ X:=IntKind.wrap .i64 (10000+(IntKind.wrap .i64 (((za q2 ((zk a0 ([20,100,100,100]:List Int)).1)).1) * 100))),Y:=IntKind.wrap .i64 ((IntKind.wrap .i64 (10000+(IntKind.wrap .i64 (((za q4 ((zk a0 ([20,100,100,100]:List Int)).1)).1) * 100))))+((za q16 200).1)):Point },q18))else({ X:=IntKind.wrap .i64 (10000+(IntKind.wrap .i64 (((za q2 ((zk a0 ([20,100,100,100]:List Int)).1)).1) * 100))),Y:=IntKind.wrap .i64 (10000+(IntKind.wrap .i64 (((za q4 ((zk a0 ([20,100,100,100]:List Int)).1)).1) * 100))):Point },q16))))))))
namespace N92
theorem DD:DOk Tryz.prog (Go.Ab.DD [(45,dM [true,false] D_za),(93,dM [true,false] D_zn),(96,dM [true,true] D_zk)]):=ya yme.e <| ya yip.e <| ya yqu.e <| yf _
abbrev dn:=cj @D_za.eq_1 <| cj @D_zn.eq_1 <| @D_zk.eq_1
theorem o1 {p:Prop} (h:p:=by(first|(refine SrcOk.mono (by repeat' first|assumption|exact SrcOk.next ‹_› | apply SrcOk.next|apply SrcOk.pick|apply SrcOk.one|apply SrcOk.among|apply SrcOk.text|apply SrcOk.colors|apply SrcOk.point|apply SrcOk.chr|apply SrcOk.sectors|apply SrcOk.aid|apply SrcOk.aids|apply SrcOk.notice|omega) (by omega)));first|done|fail):p:=h
theorem lx {p:Prop} (h:p:=by(exact lxx);first|done|fail):p:=h
set_option maxHeartbeats 2000000 in
set_option maxRecDepth 20000 in
theorem den (a0:l00Src) (hp0:SrcOk 700000 a0):DenM Tryz.prog 92 [.op (yu a0)] (.agg (ypf ((zwb a0).1))) [(.op (yu ((zwb a0).2)))]:=by
 generalize hR:zwb a0=r;unfold zwb at hR;refine dj (gb:=[true]) Tryz.func92 Tryz.ntmps92 Tryz.results92 ?_;intro c hL hc hk;obtain⟨hL0,_⟩:=hL;have hw0:bwl00Src a0:=ygb a0 hL0;clear hL0;simp only[adEL,adE,adRL,adR,ownL,encL,sv,List.nil_append,List.append_nil,List.cons_append,List.length_cons,List.length_nil,pars,Nat.zero_add,Nat.reduceAdd]at hk ⊢;iterate 2 refine rS ?_
 generalize hq2:(zk a0 ([20,100,100,100]:List Int)).2=q2 at hR ⊢;replace hR:=bn hR;have hS_q2:SrcOk (700002) q2:=by rw[<- hq2];exact SrcOk.among hp0 (by omega)
 refine rS ?_;generalize hq4:(za q2 ((zk a0 ([20,100,100,100]:List Int)).1)).2=q4 at hR ⊢;replace hR:=bn hR;have hS_q4:SrcOk (700004) q4:=by rw[<- hq4];exact SrcOk.pick hS_q2 (by omega)
 refine rS ?_;generalize hq6:(za q4 ((zk a0 ([20,100,100,100]:List Int)).1)).2=q6 at hR ⊢;replace hR:=bn hR;have hS_q6:SrcOk (700006) q6:=by rw[<- hq6];exact SrcOk.pick hS_q4 (by omega)
 refine rS ?_;generalize hq8:(zn q6 3).2=q8 at hR ⊢;replace hR:=bn hR;have hS_q8:SrcOk (700008) q8:=by rw[<- hq8];exact SrcOk.one hS_q6 (by omega)
 refine AWP.cond rfl (fun hb => ?_) (fun hb => ?_)
 ·replace hR:=ct hR
  refine rS ?_;generalize hq10:(za q8 200).2=q10 at hR ⊢;replace hR:=bn hR;have hS_q10:SrcOk (700010) q10:=by rw[<- hq10];exact SrcOk.pick hS_q8 (by omega)
  refine rS ?_;generalize hq12:(zn q10 3).2=q12 at hR ⊢;replace hR:=bn hR;have hS_q12:SrcOk (700012) q12:=by rw[<- hq12];exact SrcOk.one hS_q10 (by omega)
  refine AWP.cond rfl (fun hb => ?_) (fun hb => ?_)
  ·replace hR:=ct hR
   refine rS ?_;generalize hq14:(za q12 200).2=q14 at hR ⊢;replace hR:=bn hR;have hS_q14:SrcOk (700014) q14:=by rw[<- hq14];exact SrcOk.pick hS_q12 (by omega)
   refine rS ?_;refine AWP.ret ?_;subst hR;exact es
  ·replace hR:=cf hR
   refine rS ?_;refine AWP.ret ?_;subst hR;exact es
 ·replace hR:=cf hR
  refine rS ?_;generalize hq16:(zn q8 3).2=q16 at hR ⊢;replace hR:=bn hR;have hS_q16:SrcOk (700010) q16:=by rw[<- hq16];exact SrcOk.one hS_q8 (by omega)
  refine AWP.cond rfl (fun hb => ?_) (fun hb => ?_)
  ·replace hR:=ct hR
   refine rS ?_;generalize hq18:(za q16 200).2=q18 at hR ⊢;replace hR:=bn hR;have hS_q18:SrcOk (700012) q18:=by rw[<- hq18];exact SrcOk.pick hS_q16 (by omega)
   refine rS ?_;refine AWP.ret ?_;subst hR;exact es
  ·replace hR:=cf hR
   refine rS ?_;refine AWP.ret ?_;subst hR;exact es
end N92
def D_zwb : List AV -> Option (AV × List AV × List Prop)
 | [x0]=>some (.agg (ypf ((zwb (rdQ yw x0)).1)),[(.op (yu ((zwb (rdQ yw x0)).2)))],[wQ yu yw x0,SrcOk 700000 (rdQ yw x0)])
 | _=>none
theorem y13:OkM Tryz.prog 92 D_zwb:=by unfold D_zwb;exact dm N92.den
def zff (a0:Int):(Mark×Int):=
 (bif (!(zec a0))then({ Kind:=0,Colors:=[],Shape:=[],Topmark:=[]:Mark },2)else({ Kind:=a0,Colors:=(zvd a0),Shape:=((zcb a0).getD 0 default),Topmark:=(zde a0):Mark },0))
namespace N94
theorem DD:DOk Tryz.prog (Go.Ab.DD [(153,dP D_zec),(154,dP D_zvd),(155,dP D_zcb),(156,dP D_zde)]):=ya yvp.e <| ya y2o.e <| ya yzx.e <| ya yjp.e <| yf _
theorem DZ:DOk Tryz.prog (Go.Ab.DD [(153,dP D_zec),(154,dP D_zvd),(155,dP Dz_zcb),(156,dP D_zde)]):=ya yvp.e <| ya y2o.e <| ya yb1.e <| ya yjp.e <| yf _
abbrev dn:=cj @D_zec.eq_1 <| cj @D_zvd.eq_1 <| cj @D_zcb.eq_1 <| cj @D_zde.eq_1 <| @Dz_zcb.eq_1
theorem o1 {p:Prop} (h:p:=by(first|(have h9:=hki (by assumption);omega));first|done|fail):p:=h
theorem den (a0:Int)  : Den Tryz.prog 94 [.int .i64 a0] (.tup [.agg (ygh ((zff a0).1)),.int .i64 ((zff a0).2)]):=by
 generalize hR:zff a0=r;unfold zff at hR;refine di Tryz.func94 Tryz.ntmps94 Tryz.results94 ?_;intro c hL hc hk;clear hL;simp only[pars,Nat.zero_add];have hs5:1<=(zcb a0).length:=by unfold zcb;simp only[Bool.cond_eq_ite];(repeat' split)<;>simp
 have hki:zec a0=true->0<=a0/\a0<=9:=fun h=>by unfold zec zg at h;simp at h;omega
 iterate 2 refine rS ?_
 refine AWP.cond rfl (fun hb => ?_) (fun hb => ?_)
 ·replace hR:=ct hR
  refine rS ?_;refine AWP.ret ?_;subst hR;exact es
 ·replace hR:=cf hR
  refine rZ 9 ?_;refine AWP.ret ?_;subst hR;exact es
end N94
def D_zff : DF
 | [x0]=>some (.tup [.agg (ygh ((zff (rdI x0)).1)),.int .i64 ((zff (rdI x0)).2)],false,[wI .i64 x0])
 | _=>none
theorem y83:OkD Tryz.prog 94 D_zff:=by unfold D_zff;exact dk N94.den
def yxn (a0:(List Aid)) (a1:(List Aid)) (i1:Nat) (s1:Unit):Except (Bool) (Unit):=
 (bif (!(zqd (a0.getD i1 default) (a1.getD i1 default)))then .error false else .ok ())
def zgf (a0:(List Aid)) (a1:(List Aid)):Bool:=
 (bif ((a0.length:Int) != (a1.length:Int))then false else(match yh (yxn a0 a1) (a0.length-0) 0 ()with|.error e=>e|.ok s1=>true))
namespace N16
theorem DD:DOk Tryz.prog (Go.Ab.DD [(44,dP D_zqd)]):=ya ynp.e <| yf _
abbrev dn:=@D_zqd.eq_1
theorem den (a0:(List Aid)) (a1:(List Aid))  : Den Tryz.prog 16 [encL 16 eAid a0,encL 16 eAid a1] (.bool (zgf a0 a1)):=by
 generalize hR:zgf a0 a1=r;unfold zgf at hR;refine di Tryz.func16 Tryz.ntmps16 Tryz.results16 ?_;intro c hL hc hk;obtain⟨hL0,hL1,_⟩:=hL;have hw0:a0.length<9223372036854775808:=Nat.lt_succ_of_le (yb hL0).1;have hw1:∀ v∈a0,bwAid v:=fun v hv=>y3 v ((yb hL0).2 v hv)
 have hw2:a1.length<9223372036854775808:=Nat.lt_succ_of_le (yb hL1).1;have hw3:∀ v∈a1,bwAid v:=fun v hv=>y3 v ((yb hL1).2 v hv)
 clear hL0 hL1;simp only[pars,Nat.zero_add];iterate 2 refine rS ?_
 refine AWP.cond rfl (fun hb => ?_) (fun hb => ?_)
 ·replace hR:=ct hR
  refine rS ?_;refine AWP.ret ?_;subst hR;exact es
 ·replace hR:=cf hR
  refine rS ?_;refine AWP.block ?_;generalize hz1:yh (yxn a0 a1) (a0.length-0) 0 ()=z1 at hR;refine AWP.range (yxn a0 a1) (fun i1 s1=>⟨[(0,encL 16 eAid a0),(1,encL 16 eAid a1),(5,.int .i64 (i1:Int))],[]⟩) (fun i1 s1=>True) (a0.length) 0 () [] hz1 ot wt sm ?_;clear hz1;intro i1 s1 hi1 hW1 hz1;refine rS ?_;refine AWP.cond rfl (fun hb => ?_) (fun hb => ?_)
  ·have hlt1:i1<a0.length:=ot
   rw[yl hlt1]at hz1;simp only[yxn]at hz1;refine rD 6 ?_;refine AWP.cond rfl (fun hb => ?_) (fun hb => ?_)
   ·simp only[hb,cond_true]at hz1
    refine rS ?_;refine AWP.ret ?_;subst hz1;dsimp only at hR;subst hR;exact es
   ·simp only[hb,cond_false]at hz1
    refine rS ?_;exact⟨_,[],hlt1,wt,hz1,sm⟩
  ·obtain rfl:i1=a0.length:=ot
   rw[yk (Nat.le_refl _)]at hz1;subst hz1;dsimp only at hR;refine AWP.exit ?_;refine yd ?_;refine rS ?_;refine AWP.ret ?_;subst hR;exact es
end N16
def D_zgf : DF
 | [x0,x1]=>some (.bool (zgf (rdL dAid x0) (rdL dAid x1)),false,[wL 16 eAid dAid x0,wL 16 eAid dAid x1])
 | _=>none
theorem yk4:OkD Tryz.prog 16 D_zgf:=by unfold D_zgf;exact dk N16.den
def zje (a0:(List Int)):l00Src:=
 { code:=a0,at_:=0,seed:=0:l00Src }
namespace N18
theorem DD:DOk Tryz.prog (Go.Ab.DD []):=yf _
theorem den (a0:(List Int))  : Den Tryz.prog 18 [encL 1 eIu8 a0] (.op (yu (zje a0))):=by
 generalize hR:zje a0=r;unfold zje at hR;refine di Tryz.func18 Tryz.ntmps18 Tryz.results18 ?_;intro c hL hc hk;obtain⟨hL0,_⟩:=hL;have hw0:a0.length<9223372036854775808:=Nat.lt_succ_of_le (yb hL0).1;clear hL0;simp only[pars,Nat.zero_add];iterate 2 refine rS ?_
 refine AWP.ret ?_;subst hR;exact es
end N18
def D_zje : DF
 | [x0]=>some (.op (yu (zje (rdL dIu8 x0))),false,[wL 1 eIu8 dIu8 x0])
 | _=>none
theorem yqo:OkD Tryz.prog 18 D_zje:=by unfold D_zje;exact dk N18.den
end Go.Ab
