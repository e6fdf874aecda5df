/- A part of a proof: walks of functions and lemmas of our own. No conditions. -/
import Derived.Test.YtijmcongeemehaaGreatDoorEAl
import Derived.Test.YtijmcongeemehaaGreatDoorEAo
import Derived.Test.YtijmcongeemehaaGreatDoorEAp
import Derived.Test.YtijmcongeemehaaGreatDoorEAi
set_option linter.unusedSectionVars false
set_option linter.unusedVariables false
set_option linter.unusedSimpArgs false
set_option maxHeartbeats 1000000
namespace Go.Ab
open Go Go.Proofs
def ze (a0:Int) (a1:Int) (a2:Int):Bool:=
 (decide (a1<=a0) && decide (a0<=a2))
namespace N111
theorem DD:DOk Tryz.prog (Go.Ab.DD []):=ye _
theorem den (a0:Int) (a1:Int) (a2:Int)  : Den Tryz.prog 111 [.int .i64 a0,.int .i64 a1,.int .i64 a2] (.bool (ze a0 a1 a2)):=by
 generalize hR:ze a0 a1 a2=r;unfold ze at hR;refine di Tryz.func111 Tryz.ntmps111 Tryz.results111 ?_;intro c hL hc hk;clear hL;simp only[pars,Nat.zero_add];iterate 2 refine rS ?_
 refine AWP.ret ?_;subst hR;exact es
end N111
def D_ze : DF
 | [x0,x1,x2]=>some (.bool (ze (rdI x0) (rdI x1) (rdI x2)),false,[wI .i64 x0,wI .i64 x1,wI .i64 x2])
 | _=>none
theorem y7b:OkD Tryz.prog 111 D_ze:=by unfold D_ze;exact dk N111.den
def yqg (a0:(List UInt8)) (a1:Int) (i1:Nat) (s1:Int) (i2:Nat) (s2:Int):Except (Int) (Int):=
 (bif decide (65535<(IntKind.wrap .i64 (s2 * 2)))then .ok (IntKind.wrap .i64 (BitVec.ofInt (IntKind.bits .i64) (IntKind.wrap .i64 (BitVec.ofInt (IntKind.bits .i64) (IntKind.wrap .i64 (s2 * 2)) &&& BitVec.ofInt (IntKind.bits .i64) 65535).toNat) ^^^ BitVec.ofInt (IntKind.bits .i64) 4129).toNat)else .ok (IntKind.wrap .i64 (s2 * 2)))
def y2h (a0:(List UInt8)) (a1:Int) (i1:Nat) (s1:Int):Except (Int) (Int):=
 (match yd (yqg a0 a1 i1 s1) (8-0) 0 (IntKind.wrap .i64 (BitVec.ofInt (IntKind.bits .i64) s1 ^^^ BitVec.ofInt (IntKind.bits .i64) (IntKind.wrap .i64 ((IntKind.wrap .i64 ((a0.getD i1 0).toNat:Int)) * 256))).toNat)with|.error e=>.error e|.ok s2=>.ok s2)
def zeb (a0:(List UInt8)) (a1:Int):Int:=
 (bif (!(ze a1 0 65535))then 0 else(match yd (y2h a0 a1) (a0.length-0) 0 a1 with|.error e=>e|.ok s1=>s1))
namespace N178
theorem DD:DOk Tryz.prog (Go.Ab.DD [(111,dP D_ze)]):=ya y7b.e <| ye _
theorem dn:type_of% (@D_ze.eq_1):=by and_intros<;>intros<;>rfl
theorem ol:type_of% (@ze.eq_1):=@ze.eq_1
theorem den (a0:(List UInt8)) (a1:Int)  : Den Tryz.prog 178 [.str a0,.int .i64 a1] (.int .i64 (zeb a0 a1)):=by
 generalize hR:zeb a0 a1=r;unfold zeb at hR;refine di Tryz.func178 Tryz.ntmps178 Tryz.results178 ?_;intro c hL hc hk;obtain⟨hL0,hL1,_⟩:=hL;have hw0:a0.length<9223372036854775808:=Nat.lt_succ_of_le hL0;clear hL0 hL1;simp only[pars,Nat.zero_add];iterate 2 refine rS ?_
 refine AWP.cond rfl (fun hb => ?_) (fun hb => ?_)
 ·replace hR:=ct hR
  refine rS ?_;refine AWP.ret ?_;subst hR;exact es
 ·replace hR:=cf hR
  refine rS ?_;refine AWP.block ?_;generalize hz1:yd (y2h a0 a1) (a0.length-0) 0 a1=z1 at hR;refine AWP.range (y2h a0 a1) (fun i1 s1=>⟨[(0,.str a0),(1,.int .i64 s1),(5,.int .i64 (i1:Int))],[]⟩) (fun i1 s1=>True) (a0.length) 0 a1 [] hz1 ot wt sm ?_;clear hz1;intro i1 s1 hi1 hW1 hz1;refine rS ?_;refine AWP.cond rfl (fun hb => ?_) (fun hb => ?_)
  ·have hlt1:i1<a0.length:=ot
   rw[yg hlt1]at hz1;simp only[y2h]at hz1;iterate 2 refine rS ?_
   refine AWP.block ?_;generalize hz2:yd (yqg a0 a1 i1 s1) (8-0) 0 (IntKind.wrap .i64 (BitVec.ofInt (IntKind.bits .i64) s1 ^^^ BitVec.ofInt (IntKind.bits .i64) (IntKind.wrap .i64 ((IntKind.wrap .i64 ((a0.getD i1 0).toNat:Int)) * 256))).toNat)=z2 at hz1;refine AWP.range (yqg a0 a1 i1 s1) (fun i2 s2=>⟨[(0,.str a0),(1,.int .i64 s2),(5,.int .i64 (i1:Int)),(22,.int .i64 (i2:Int))],[]⟩) (fun i2 s2=>True) (8) 0 (IntKind.wrap .i64 (BitVec.ofInt (IntKind.bits .i64) s1 ^^^ BitVec.ofInt (IntKind.bits .i64) (IntKind.wrap .i64 ((IntKind.wrap .i64 ((a0.getD i1 0).toNat:Int)) * 256))).toNat) [] hz2 ot wt sm ?_;clear hz2;intro i2 s2 hi2 hW2 hz2;refine rS ?_;refine AWP.seq ?_;refine AWP.cond rfl (fun hb => ?_) (fun hb => ?_)
   ·have hlt2:i2<8:=ot
    rw[yg hlt2]at hz2;simp only[yqg]at hz2;iterate 2 refine rS ?_
    refine AWP.cond rfl (fun hb => ?_) (fun hb => ?_)
    ·simp only[hb,cond_true]at hz2
     iterate 2 refine rS ?_
     exact⟨_,[],hlt2,wt,hz2,sm⟩
    ·simp only[hb,cond_false]at hz2
     refine rS ?_;exact⟨_,[],hlt2,wt,hz2,sm⟩
   ·obtain rfl:i2=8:=ot
    rw[yh (Nat.le_refl _)]at hz2;subst hz2;dsimp only at hz1;refine AWP.exit ?_;refine yb ?_;refine rS ?_;exact⟨_,[],hlt1,wt,hz1,sm⟩
  ·obtain rfl:i1=a0.length:=ot
   rw[yh (Nat.le_refl _)]at hz1;subst hz1;dsimp only at hR;refine AWP.exit ?_;refine yb ?_;refine rS ?_;refine AWP.ret ?_;subst hR;exact es
end N178
def D_zeb : DF
 | [x0,x1]=>some (.int .i64 (zeb (rdS x0) (rdI x1)),false,[wS x0,wI .i64 x1])
 | _=>none
theorem yf4:OkD Tryz.prog 178 D_zeb:=by unfold D_zeb;exact dk N178.den
def zac (a0:Int) (a1:Int):Bool:=
 decide (a0<=a1)
namespace N110
theorem DD:DOk Tryz.prog (Go.Ab.DD []):=ye _
theorem den (a0:Int) (a1:Int)  : Den Tryz.prog 110 [.int .i64 a0,.int .i64 a1] (.bool (zac a0 a1)):=by
 generalize hR:zac a0 a1=r;unfold zac at hR;refine di Tryz.func110 Tryz.ntmps110 Tryz.results110 ?_;intro c hL hc hk;clear hL;simp only[pars,Nat.zero_add];iterate 2 refine rS ?_
 refine AWP.ret ?_;subst hR;exact es
end N110
def D_zac : DF
 | [x0,x1]=>some (.bool (zac (rdI x0) (rdI x1)),false,[wI .i64 x0,wI .i64 x1])
 | _=>none
theorem y7j:OkD Tryz.prog 110 D_zac:=by unfold D_zac;exact dk N110.den
def zig (a0:Int):Bool:=
 (decide (48<=a0) && decide (a0<=57))
namespace N209
theorem DD:DOk Tryz.prog (Go.Ab.DD []):=ye _
theorem den (a0:Int)  : Den Tryz.prog 209 [.int .u8 a0] (.bool (zig a0)):=by
 generalize hR:zig a0=r;unfold zig at hR;refine di Tryz.func209 Tryz.ntmps209 Tryz.results209 ?_;intro c hL hc hk;clear hL;simp only[pars,Nat.zero_add];iterate 2 refine rS ?_
 refine AWP.ret ?_;subst hR;exact es
end N209
def D_zig : DF
 | [x0]=>some (.bool (zig (rdI x0)),false,[wI .u8 x0])
 | _=>none
theorem yb3:OkD Tryz.prog 209 D_zig:=by unfold D_zig;exact dk N209.den
def y7v (a0:(List UInt8)) (i1:Nat) (s1:Unit):Except (Bool) (Unit):=
 (bif ((!(decide (97<=((a0.getD i1 0).toNat:Int)) && decide (((a0.getD i1 0).toNat:Int)<=122))) && (((i1:Int) == 0) || (!(zig ((a0.getD i1 0).toNat:Int)))))then .error false else .ok ())
def zje (a0:(List UInt8)):Bool:=
 (match yd (y7v a0) (a0.length-0) 0 ()with|.error e=>e|.ok s1=>((a0 != []) && (zac (a0.length:Int) 10)))
namespace N132
theorem DD:DOk Tryz.prog (Go.Ab.DD [(110,dP D_zac),(209,dP D_zig)]):=ya y7j.e <| ya yb3.e <| ye _
theorem dn:type_of% (And.intro @D_zac.eq_1 <| @D_zig.eq_1):=by and_intros<;>intros<;>rfl
theorem den (a0:(List UInt8))  : Den Tryz.prog 132 [.str a0] (.bool (zje a0)):=by
 generalize hR:zje a0=r;unfold zje at hR;refine di Tryz.func132 Tryz.ntmps132 Tryz.results132 ?_;intro c hL hc hk;obtain⟨hL0,_⟩:=hL;have hw0:a0.length<9223372036854775808:=Nat.lt_succ_of_le hL0;clear hL0;simp only[pars,Nat.zero_add];iterate 2 refine rS ?_
 refine AWP.block ?_;generalize hz1:yd (y7v a0) (a0.length-0) 0 ()=z1 at hR;refine AWP.range (y7v a0) (fun i1 s1=>⟨[(0,.str a0),(3,.int .i64 (i1:Int))],[]⟩) (fun i1 s1=>True) (a0.length) 0 () [] hz1 ot wt sm ?_;clear hz1;intro i1 s1 hi1 hW1 hz1;refine rS ?_;refine AWP.cond rfl (fun hb => ?_) (fun hb => ?_)
 ·have hlt1:i1<a0.length:=ot
  rw[yg hlt1]at hz1;simp only[y7v]at hz1;iterate 2 refine rS ?_
  refine AWP.cond rfl (fun hb => ?_) (fun hb => ?_)
  ·simp only[hb,cond_true]at hz1
   refine rS ?_;refine AWP.ret ?_;subst hz1;dsimp only at hR;subst hR;exact es
  ·simp only[hb,cond_false]at hz1
   refine rS ?_;exact⟨_,[],hlt1,wt,hz1,sm⟩
 ·obtain rfl:i1=a0.length:=ot
  rw[yh (Nat.le_refl _)]at hz1;subst hz1;dsimp only at hR;refine AWP.exit ?_;refine yb ?_;refine rS ?_;refine AWP.ret ?_;subst hR;exact es
end N132
def D_zje : DF
 | [x0]=>some (.bool (zje (rdS x0)),false,[wS x0])
 | _=>none
theorem ys2:OkD Tryz.prog 132 D_zje:=by unfold D_zje;exact dk N132.den
def yaq (a0:(List Int)) (i1:Nat) (s1:Int):Except (Bool) (Int):=
 (bif (!(ze (a0.getD i1 default) 1 9))then .error false else .ok (IntKind.wrap .i64 (s1+(a0.getD i1 default))))
def zpd (a0:(List Int)):Bool:=
 (match yd (yaq a0) (a0.length-0) 0 0 with|.error e=>e|.ok s1=>(((zac (a0.length:Int) 4) && decide (s1<=12)) && (!(znc a0 ([1]:List Int)))))
namespace N268
theorem DD:DOk Tryz.prog (Go.Ab.DD [(110,dP D_zac),(111,dP D_ze),(269,dP D_znc)]):=ya y7j.e <| ya y7b.e <| ya y4v.e <| ye _
theorem dn:type_of% (And.intro @D_zac.eq_1 <| And.intro @D_ze.eq_1 <| @D_znc.eq_1):=by and_intros<;>intros<;>rfl
theorem ol:type_of% (@ze.eq_1):=@ze.eq_1
theorem den (a0:(List Int))  : Den Tryz.prog 268 [encL 1 yt a0] (.bool (zpd a0)):=by
 generalize hR:zpd a0=r;unfold zpd at hR;refine di Tryz.func268 Tryz.ntmps268 Tryz.results268 ?_;intro c hL hc hk;obtain⟨hL0,_⟩:=hL;have hw0:a0.length<9223372036854775808:=Nat.lt_succ_of_le (yj hL0).1;clear hL0;simp only[pars,Nat.zero_add];iterate 3 refine rS ?_
 refine AWP.block ?_;generalize hz1:yd (yaq a0) (a0.length-0) 0 0=z1 at hR;refine AWP.range (yaq a0) (fun i1 s1=>⟨[(0,encL 1 yt a0),(3,.int .i64 s1),(6,encL 1 yt a0),(7,.int .i64 (a0.length:Int)),(8,.int .i64 (i1:Int))],[]⟩) (fun i1 s1=>True) (a0.length) 0 0 [] hz1 ot wt sm ?_;clear hz1;intro i1 s1 hi1 hW1 hz1;refine rS ?_;refine AWP.seq ?_;refine AWP.cond rfl (fun hb => ?_) (fun hb => ?_)
 ·have hlt1:i1<a0.length:=ot
  rw[yg hlt1]at hz1;simp only[yaq]at hz1;iterate 2 refine rS ?_
  refine AWP.cond rfl (fun hb => ?_) (fun hb => ?_)
  ·simp only[hb,cond_true]at hz1
   refine rS ?_;refine AWP.ret ?_;subst hz1;dsimp only at hR;subst hR;exact es
  ·simp only[hb,cond_false]at hz1
   iterate 2 refine rS ?_
   exact⟨_,[],hlt1,wt,hz1,sm⟩
 ·obtain rfl:i1=a0.length:=ot
  rw[yh (Nat.le_refl _)]at hz1;subst hz1;dsimp only at hR;refine AWP.exit ?_;refine yb ?_;refine rS ?_;refine AWP.ret ?_;subst hR;exact es
end N268
def D_zpd : DF
 | [x0]=>some (.bool (zpd (rdL y5b x0)),false,[wL 1 yt y5b x0])
 | _=>none
theorem y60:OkD Tryz.prog 268 D_zpd:=by unfold D_zpd;exact dk N268.den
def y6h (a0:(List UInt8)) (i1:Nat) (s1:Int):Except (Bool) (Int):=
 (bif decide ((zxe [87,82,71,89] ((a0.getD i1 0).toNat:Int))<=s1)then .error false else .ok (zxe [87,82,71,89] ((a0.getD i1 0).toNat:Int)))
def zvb (a0:(List UInt8)):Bool:=
 (match yd (y6h a0) (a0.length-0) 0 (-1)with|.error e=>e|.ok s1=>(ze (a0.length:Int) 1 3))
namespace N215
theorem DD:DOk Tryz.prog (Go.Ab.DD [(111,dP D_ze),(267,dP D_zxe)]):=ya y7b.e <| ya yt0.e <| ye _
theorem dn:type_of% (And.intro @D_ze.eq_1 <| @D_zxe.eq_1):=by and_intros<;>intros<;>rfl
theorem ol:type_of% (@ze.eq_1):=@ze.eq_1
theorem den (a0:(List UInt8))  : Den Tryz.prog 215 [.str a0] (.bool (zvb a0)):=by
 generalize hR:zvb a0=r;unfold zvb at hR;refine di Tryz.func215 Tryz.ntmps215 Tryz.results215 ?_;intro c hL hc hk;obtain⟨hL0,_⟩:=hL;have hw0:a0.length<9223372036854775808:=Nat.lt_succ_of_le hL0;clear hL0;simp only[pars,Nat.zero_add];iterate 3 refine rS ?_
 refine AWP.block ?_;generalize hz1:yd (y6h a0) (a0.length-0) 0 (-1)=z1 at hR;refine AWP.range (y6h a0) (fun i1 s1=>⟨[(0,.str a0),(3,.int .i64 s1),(4,.int .i64 (i1:Int))],[]⟩) (fun i1 s1=>True) (a0.length) 0 (-1) [] hz1 ot wt sm ?_;clear hz1;intro i1 s1 hi1 hW1 hz1;refine rS ?_;refine AWP.cond rfl (fun hb => ?_) (fun hb => ?_)
 ·have hlt1:i1<a0.length:=ot
  rw[yg hlt1]at hz1;simp only[y6h]at hz1;iterate 2 refine rS ?_
  refine AWP.cond rfl (fun hb => ?_) (fun hb => ?_)
  ·simp only[hb,cond_true]at hz1
   refine rS ?_;refine AWP.ret ?_;subst hz1;dsimp only at hR;subst hR;exact es
  ·simp only[hb,cond_false]at hz1
   iterate 2 refine rS ?_
   exact⟨_,[],hlt1,wt,hz1,sm⟩
 ·obtain rfl:i1=a0.length:=ot
  rw[yh (Nat.le_refl _)]at hz1;subst hz1;dsimp only at hR;refine AWP.exit ?_;refine yb ?_;refine rS ?_;refine AWP.ret ?_;subst hR;exact es
end N215
def D_zvb : DF
 | [x0]=>some (.bool (zvb (rdS x0)),false,[wS x0])
 | _=>none
theorem yr2:OkD Tryz.prog 215 D_zvb:=by unfold D_zvb;exact dk N215.den
def zrb (a0:(List UInt8)):(List UInt8):=
 (bif ((((a0.length:Int) != 1) || Op.bytesLess a0 [65]) || !(Op.bytesLess a0 [90] || a0 == [90]))then[]else([[46,45],[45,46,46,46],[45,46,45,46],[45,46,46],[46],[46,46,45,46],[45,45,46],[46,46,46,46],[46,46],[46,45,45,45],[45,46,45],[46,45,46,46],[45,45],[45,46],[45,45,45],[46,45,45,46],[45,45,46,45],[46,45,46],[46,46,46],[45],[46,46,45],[46,46,46,45],[46,45,45],[45,46,46,45],[45,46,45,45],[45,45,46,46]]:List (List UInt8)).getD ((IntKind.wrap .u8 (((a0.getD 0 0).toNat:Int)-65)).toNat) [])
namespace N270
theorem DD:DOk Tryz.prog (Go.Ab.DD []):=ye _
theorem o0 {p:Prop} (h:p:=by(first|(simp only[Bool.or_eq_false_iff,Bool.not_eq_false',Bool.or_eq_true,bne_eq_false_iff_eq]at hb;have h9:=yp1 a0 hb;have h8:=hb.1.1;and_intros<;>omega));first|done|fail):p:=h
theorem den (a0:(List UInt8))  : Den Tryz.prog 270 [.str a0] (.str (zrb a0)):=by
 generalize hR:zrb a0=r;unfold zrb at hR;refine di Tryz.func270 Tryz.ntmps270 Tryz.results270 ?_;intro c hL hc hk;obtain⟨hL0,_⟩:=hL;have hw0:a0.length<9223372036854775808:=Nat.lt_succ_of_le hL0;clear hL0;simp only[pars,Nat.zero_add];iterate 2 refine rS ?_
 refine AWP.cond rfl (fun hb => ?_) (fun hb => ?_)
 ·replace hR:=ct hR
  refine rS ?_;refine AWP.ret ?_;subst hR;exact es
 ·replace hR:=cf hR
  refine rS ?_;refine AWP.ret ?_;subst hR;exact es
end N270
def D_zrb : DF
 | [x0]=>some (.str (zrb (rdS x0)),false,[wS x0])
 | _=>none
theorem yiw:OkD Tryz.prog 270 D_zrb:=by unfold D_zrb;exact dk N270.den
def zgb (a0:Character):Bool:=
 (bif (a0.Kind == 1)then(((a0.Group.length:Int) == 0) && (a0.Letter == []))else(bif (a0.Kind == 3)then(((a0.Group.length:Int) == 0) && (a0.Letter == []))else(bif (a0.Kind == 2)then((a0.Letter == []) && (zpd a0.Group))else(bif (a0.Kind == 4)then((a0.Letter == []) && (zpd a0.Group))else(bif (a0.Kind == 5)then((a0.Letter == []) && (zpd a0.Group))else(bif (a0.Kind == 6)then(bif (a0.Letter == [])then(((a0.Group.length:Int) == 0) || (((a0.Group.length:Int) == 1) && (ze (a0.Group.getD 0 default) 2 9)))else((a0.Letter == [76]) && (znc a0.Group ([6]:List Int))))else(bif (a0.Kind == 7)then(bif (a0.Letter == [])then(((a0.Group.length:Int) == 0) || (((a0.Group.length:Int) == 1) && (ze (a0.Group.getD 0 default) 2 9)))else((a0.Letter == [76]) && (znc a0.Group ([6]:List Int))))else(bif (a0.Kind == 8)then(((zrb a0.Letter) != []) && ((a0.Group.length:Int) == 0))else false))))))))
namespace N216
theorem DD:DOk Tryz.prog (Go.Ab.DD [(111,dP D_ze),(268,dP D_zpd),(269,dP D_znc),(270,dP D_zrb)]):=ya y7b.e <| ya y60.e <| ya y4v.e <| ya yiw.e <| ye _
theorem dn:type_of% (And.intro @D_ze.eq_1 <| And.intro @D_zpd.eq_1 <| And.intro @D_znc.eq_1 <| @D_zrb.eq_1):=by and_intros<;>intros<;>rfl
theorem ol:type_of% (@ze.eq_1):=@ze.eq_1
theorem den (a0:Character)  : Den Tryz.prog 216 [.agg (yi a0)] (.bool (zgb a0)):=by
 generalize hR:zgb a0=r;unfold zgb at hR;refine di Tryz.func216 Tryz.ntmps216 Tryz.results216 ?_;intro c hL hc hk;obtain⟨hL0,_⟩:=hL;have hw0:bwCharacter a0:=yp a0 hL0;clear hL0;simp only[pars,Nat.zero_add];iterate 3 refine rS ?_
 refine AWP.cond rfl (fun hb => ?_) (fun hb => ?_)
 ·replace hR:=ct hR
  refine AWP.skip ?_;refine AWP.cond rfl (fun hb => ?_) (fun hb => ?_)
  ·refine rS ?_
   refine AWP.ret ?_;subst hR;exact es
  ·exfalso;simp_all
 ·replace hR:=cf hR
  refine rS ?_;refine AWP.cond rfl (fun hb => ?_) (fun hb => ?_)
  ·replace hR:=ct hR
   refine rS ?_;refine AWP.ret ?_;subst hR;exact es
  ·replace hR:=cf hR
   refine rS ?_;refine AWP.cond rfl (fun hb => ?_) (fun hb => ?_)
   ·replace hR:=ct hR
    refine AWP.skip ?_;refine AWP.cond rfl (fun hb => ?_) (fun hb => ?_)
    ·refine rS ?_
     refine AWP.ret ?_;subst hR;exact es
    ·exfalso;simp_all
   ·replace hR:=cf hR
    refine rS ?_;refine AWP.cond rfl (fun hb => ?_) (fun hb => ?_)
    ·replace hR:=ct hR
     refine AWP.skip ?_;refine AWP.cond rfl (fun hb => ?_) (fun hb => ?_)
     ·refine rS ?_
      refine AWP.ret ?_;subst hR;exact es
     ·exfalso;simp_all
    ·replace hR:=cf hR
     refine rS ?_;refine AWP.cond rfl (fun hb => ?_) (fun hb => ?_)
     ·replace hR:=ct hR
      refine rS ?_;refine AWP.ret ?_;subst hR;exact es
     ·replace hR:=cf hR
      refine rS ?_;refine AWP.cond rfl (fun hb => ?_) (fun hb => ?_)
      ·replace hR:=ct hR
       refine AWP.skip ?_;refine AWP.cond rfl (fun hb => ?_) (fun hb => ?_)
       ·refine rS ?_
        refine AWP.cond rfl (fun hb => ?_) (fun hb => ?_)
        ·replace hR:=ct hR
         refine rS ?_;refine AWP.ret ?_;subst hR;exact es
        ·replace hR:=cf hR
         refine rS ?_;refine AWP.ret ?_;subst hR;exact es
       ·exfalso;simp_all
      ·replace hR:=cf hR
       refine rS ?_;refine AWP.cond rfl (fun hb => ?_) (fun hb => ?_)
       ·replace hR:=ct hR
        refine rS ?_;refine AWP.cond rfl (fun hb => ?_) (fun hb => ?_)
        ·replace hR:=ct hR
         refine rS ?_;refine AWP.ret ?_;subst hR;exact es
        ·replace hR:=cf hR
         refine rS ?_;refine AWP.ret ?_;subst hR;exact es
       ·replace hR:=cf hR
        refine rS ?_;refine AWP.cond rfl (fun hb => ?_) (fun hb => ?_)
        ·replace hR:=ct hR
         refine rS ?_;refine AWP.ret ?_;subst hR;exact es
        ·replace hR:=cf hR
         refine rS ?_;refine AWP.ret ?_;subst hR;exact es
end N216
def D_zgb : DF
 | [x0]=>some (.bool (zgb (rdG yc x0)),false,[wG yi yc x0])
 | _=>none
theorem y01:OkD Tryz.prog 216 D_zgb:=by unfold D_zgb;exact dk N216.den
theorem y2j (a:List UInt8):zrb a=if a.length=1/\65<=(a.getD 0 0).toNat/\(a.getD 0 0).toNat<=90 then yhd.getD ((a.getD 0 0).toNat-65) []else[]:=by
 unfold zrb;by_cases h1:a.length=1
 ·have c1:((a.length:Int) != 1)=false:=by rw[h1];rfl
  rw[c1,yfi a 65 h1,yfi a 90 h1,y3x a 90 h1];have e1:(65:UInt8).toNat=65:=rfl;have e2:(90:UInt8).toNat=90:=rfl;rw[e1,e2];by_cases h2:65<=(a.getD 0 0).toNat/\(a.getD 0 0).toNat<=90
  ·rw[if_pos ⟨h1,h2⟩,decide_eq_false (by omega)]
   have c2:(decide ((a.getD 0 0).toNat<90) || decide ((a.getD 0 0).toNat=90))=true:=by
    rw[Bool.or_eq_true,decide_eq_true_eq,decide_eq_true_eq];omega
   rw[c2];simp only[Bool.or_self,Bool.not_true,cond_false];rw[yql _ (by omega) (by omega),show((((a.getD 0 0).toNat:Int)-65).toNat)=(a.getD 0 0).toNat-65 by omega];rfl
  ·rw[if_neg (fun h=>h2 h.2)]
   by_cases h3:(a.getD 0 0).toNat<65
   ·rw[decide_eq_true h3];rfl
   ·have c2:(decide ((a.getD 0 0).toNat<90) || decide ((a.getD 0 0).toNat=90))=false:=by
     rw[decide_eq_false (by omega),decide_eq_false (by omega)];rfl
    rw[c2,decide_eq_false h3];rfl
 ·have c1:((a.length:Int) != 1)=true:=by rw[bne_iff_ne];omega
  rw[c1,if_neg (fun h=>h1 h.1)];rfl
theorem ymz (a:List UInt8):(zrb a).length<=4:=by
 rw[y2j];split
 ·exact yuk _
 ·simp
theorem yys (a:List UInt8):∀ x∈zrb a,x.toNat<128:=by
 intro x hx;rw[y2j]at hx;split at hx
 ·rw[List.getD_eq_getElem?_getD]at hx
  cases h:yhd[(a.getD 0 0).toNat-65]? with
  | none=>rw[h]at hx;simp at hx
  | some y=>
   rw[h]at hx;rcases(yli y (List.mem_of_getElem? h)).2.2 x hx with e|e<;>subst e<;>decide
 ·simp at hx
def zqg (a0:Int):Bool:=
 ((a0 == 6) || (a0 == 7))
namespace N271
theorem DD:DOk Tryz.prog (Go.Ab.DD []):=ye _
theorem den (a0:Int)  : Den Tryz.prog 271 [.int .i64 a0] (.bool (zqg a0)):=by
 generalize hR:zqg a0=r;unfold zqg at hR;refine di Tryz.func271 Tryz.ntmps271 Tryz.results271 ?_;intro c hL hc hk;clear hL;simp only[pars,Nat.zero_add];iterate 2 refine rS ?_
 refine AWP.ret ?_;subst hR;exact es
end N271
def D_zqg : DF
 | [x0]=>some (.bool (zqg (rdI x0)),false,[wI .i64 x0])
 | _=>none
theorem y04:OkD Tryz.prog 271 D_zqg:=by unfold D_zqg;exact dk N271.den
def zcd (a0:Character):Bool:=
 ((a0.Kind == 1) || ((zqg a0.Kind) && ((a0.Group.length:Int) == 0)))
namespace N217
theorem DD:DOk Tryz.prog (Go.Ab.DD [(271,dP D_zqg)]):=ya y04.e <| ye _
theorem dn:type_of% (@D_zqg.eq_1):=by and_intros<;>intros<;>rfl
theorem den (a0:Character)  : Den Tryz.prog 217 [.agg (yi a0)] (.bool (zcd a0)):=by
 generalize hR:zcd a0=r;unfold zcd at hR;refine di Tryz.func217 Tryz.ntmps217 Tryz.results217 ?_;intro c hL hc hk;obtain⟨hL0,_⟩:=hL;have hw0:bwCharacter a0:=yp a0 hL0;clear hL0;simp only[pars,Nat.zero_add];iterate 2 refine rS ?_
 refine AWP.ret ?_;subst hR;exact es
end N217
def D_zcd : DF
 | [x0]=>some (.bool (zcd (rdG yc x0)),false,[wG yi yc x0])
 | _=>none
theorem yju:OkD Tryz.prog 217 D_zcd:=by unfold D_zcd;exact dk N217.den
def zw (a0:Int):(Int×Int×Int):=
 (bif (a0 == 2)then(10,10,15)else(bif (a0 == 4)then(5,15,20)else(bif (a0 == 5)then(20,20,25)else(bif (a0 == 6)then(5,5,20)else(bif (a0 == 7)then(2,3,10)else(bif (a0 == 8)then(5,5,30)else(0,0,0)))))))
namespace N272
theorem DD:DOk Tryz.prog (Go.Ab.DD []):=ye _
theorem den (a0:Int)  : Den Tryz.prog 272 [.int .i64 a0] (.tup [.int .i64 ((zw a0).1),.int .i64 ((zw a0).2.1),.int .i64 ((zw a0).2.2)]):=by
 generalize hR:zw a0=r;unfold zw at hR;refine di Tryz.func272 Tryz.ntmps272 Tryz.results272 ?_;intro c hL hc hk;clear hL;simp only[pars,Nat.zero_add];iterate 3 refine rS ?_
 refine AWP.cond rfl (fun hb => ?_) (fun hb => ?_)
 ·replace hR:=ct hR
  refine rS ?_;refine AWP.ret ?_;subst hR;exact es
 ·replace hR:=cf hR
  refine rS ?_;refine AWP.cond rfl (fun hb => ?_) (fun hb => ?_)
  ·replace hR:=ct hR
   refine rS ?_;refine AWP.ret ?_;subst hR;exact es
  ·replace hR:=cf hR
   refine rS ?_;refine AWP.cond rfl (fun hb => ?_) (fun hb => ?_)
   ·replace hR:=ct hR
    refine rS ?_;refine AWP.ret ?_;subst hR;exact es
   ·replace hR:=cf hR
    refine rS ?_;refine AWP.cond rfl (fun hb => ?_) (fun hb => ?_)
    ·replace hR:=ct hR
     refine rS ?_;refine AWP.ret ?_;subst hR;exact es
    ·replace hR:=cf hR
     refine rS ?_;refine AWP.cond rfl (fun hb => ?_) (fun hb => ?_)
     ·replace hR:=ct hR
      refine rS ?_;refine AWP.ret ?_;subst hR;exact es
     ·replace hR:=cf hR
      refine rS ?_;refine AWP.cond rfl (fun hb => ?_) (fun hb => ?_)
      ·replace hR:=ct hR
       refine rS ?_;refine AWP.ret ?_;subst hR;exact es
      ·replace hR:=cf hR
       refine rS ?_;refine AWP.ret ?_;subst hR;exact es
end N272
def D_zw : DF
 | [x0]=>some (.tup [.int .i64 ((zw (rdI x0)).1),.int .i64 ((zw (rdI x0)).2.1),.int .i64 ((zw (rdI x0)).2.2)],false,[wI .i64 x0])
 | _=>none
theorem yhy:OkD Tryz.prog 272 D_zw:=by unfold D_zw;exact dk N272.den
def y9v (a0:(List Int)) (i1:Nat) (s1:Int):Except (Int) (Int):=
 .ok (IntKind.wrap .i64 (s1+(a0.getD i1 default)))
def zqe (a0:(List Int)):Int:=
 (match yd (y9v a0) (a0.length-0) 0 0 with|.error e=>e|.ok s1=>s1)
namespace N273
theorem DD:DOk Tryz.prog (Go.Ab.DD []):=ye _
theorem den (a0:(List Int))  : Den Tryz.prog 273 [encL 1 yt a0] (.int .i64 (zqe a0)):=by
 generalize hR:zqe a0=r;unfold zqe at hR;refine di Tryz.func273 Tryz.ntmps273 Tryz.results273 ?_;intro c hL hc hk;obtain⟨hL0,_⟩:=hL;have hw0:a0.length<9223372036854775808:=Nat.lt_succ_of_le (yj hL0).1;clear hL0;simp only[pars,Nat.zero_add];iterate 3 refine rS ?_
 refine AWP.block ?_;generalize hz1:yd (y9v a0) (a0.length-0) 0 0=z1 at hR;refine AWP.range (y9v a0) (fun i1 s1=>⟨[(3,.int .i64 s1),(6,encL 1 yt a0),(7,.int .i64 (a0.length:Int)),(8,.int .i64 (i1:Int))],[]⟩) (fun i1 s1=>True) (a0.length) 0 0 [] hz1 ot wt sm ?_;clear hz1;intro i1 s1 hi1 hW1 hz1;refine rS ?_;refine AWP.seq ?_;refine AWP.cond rfl (fun hb => ?_) (fun hb => ?_)
 ·have hlt1:i1<a0.length:=ot
  rw[yg hlt1]at hz1;simp only[y9v]at hz1;iterate 3 refine rS ?_
  exact⟨_,[],hlt1,wt,hz1,sm⟩
 ·obtain rfl:i1=a0.length:=ot
  rw[yh (Nat.le_refl _)]at hz1;subst hz1;dsimp only at hR;refine AWP.exit ?_;refine yb ?_;refine rS ?_;refine AWP.ret ?_;subst hR;exact es
end N273
def D_zqe : DF
 | [x0]=>some (.int .i64 (zqe (rdL y5b x0)),false,[wL 1 yt y5b x0])
 | _=>none
theorem y10:OkD Tryz.prog 273 D_zqe:=by unfold D_zqe;exact dk N273.den
def zl (a0:Int):(List UInt8):=
 (zog a0 10)
namespace N63
theorem DD:DOk Tryz.prog (Go.Ab.DD [(146,dP D_zog)]):=ya yv3.e <| ye _
theorem dn:type_of% (@D_zog.eq_1):=by and_intros<;>intros<;>rfl
theorem den (a0:Int) (hp0 : -9223372036854775808<=a0) (hp1:a0<=9223372036854775807):Den Tryz.prog 63 [.int .i64 a0] (.str (zl a0)):=by
 generalize hR:zl a0=r;unfold zl at hR;refine di Tryz.func63 Tryz.ntmps63 Tryz.results63 ?_;intro c hL hc hk;clear hL;simp only[pars,Nat.zero_add];iterate 2 refine rS ?_
 refine AWP.ret ?_;subst hR;exact es
end N63
def D_zl : DF
 | [x0]=>some (.str (zl (rdI x0)),false,[wI .i64 x0,-9223372036854775808<=(rdI x0),(rdI x0)<=9223372036854775807])
 | _=>none
theorem yye:OkD Tryz.prog 63 D_zl:=by unfold D_zl;exact dk N63.den
theorem yap (n:Int):(Go.Lib.itoa n).length<=n.natAbs+2:=by
 unfold Go.Lib.itoa;split
 ·have:=ymd n.natAbs
  simp only[List.length_cons];omega
 ·have:=ymd n.toNat
  omega
theorem yq3 (n:Int):zl n=Go.Lib.itoa n:=rfl
theorem yfc (n:Int):(zl n).length<=n.natAbs+2:=yap n
def zjg (a0:Int):Bool:=
 (ze a0 0 359)
namespace N275
theorem DD:DOk Tryz.prog (Go.Ab.DD [(111,dP D_ze)]):=ya y7b.e <| ye _
theorem dn:type_of% (@D_ze.eq_1):=by and_intros<;>intros<;>rfl
theorem ol:type_of% (@ze.eq_1):=@ze.eq_1
theorem den (a0:Int)  : Den Tryz.prog 275 [.int .i64 a0] (.bool (zjg a0)):=by
 generalize hR:zjg a0=r;unfold zjg at hR;refine di Tryz.func275 Tryz.ntmps275 Tryz.results275 ?_;intro c hL hc hk;clear hL;simp only[pars,Nat.zero_add];iterate 2 refine rS ?_
 refine AWP.ret ?_;subst hR;exact es
end N275
def D_zjg : DF
 | [x0]=>some (.bool (zjg (rdI x0)),false,[wI .i64 x0])
 | _=>none
theorem yh3:OkD Tryz.prog 275 D_zjg:=by unfold D_zjg;exact dk N275.den
def zbg (a0:(List UInt8)):Bool:=
 (((a0.length:Int) == 1) && (zub [87,82,71,89] a0))
namespace N276
theorem DD:DOk Tryz.prog (Go.Ab.DD [(222,dP D_zub)]):=ya y2u.e <| ye _
theorem dn:type_of% (@D_zub.eq_1):=by and_intros<;>intros<;>rfl
theorem den (a0:(List UInt8))  : Den Tryz.prog 276 [.str a0] (.bool (zbg a0)):=by
 generalize hR:zbg a0=r;unfold zbg at hR;refine di Tryz.func276 Tryz.ntmps276 Tryz.results276 ?_;intro c hL hc hk;obtain⟨hL0,_⟩:=hL;have hw0:a0.length<9223372036854775808:=Nat.lt_succ_of_le hL0;clear hL0;simp only[pars,Nat.zero_add];iterate 2 refine rS ?_
 refine AWP.ret ?_;subst hR;exact es
end N276
def D_zbg : DF
 | [x0]=>some (.bool (zbg (rdS x0)),false,[wS x0])
 | _=>none
theorem yd1:OkD Tryz.prog 276 D_zbg:=by unfold D_zbg;exact dk N276.den
def zcg (a0:Sector):Bool:=
 (((zjg a0.From) && (zjg a0.To)) && (zbg a0.Color))
namespace N219
theorem DD:DOk Tryz.prog (Go.Ab.DD [(275,dP D_zjg),(276,dP D_zbg)]):=ya yh3.e <| ya yd1.e <| ye _
theorem dn:type_of% (And.intro @D_zjg.eq_1 <| @D_zbg.eq_1):=by and_intros<;>intros<;>rfl
theorem den (a0:Sector)  : Den Tryz.prog 219 [.agg (ym a0)] (.bool (zcg a0)):=by
 generalize hR:zcg a0=r;unfold zcg at hR;refine di Tryz.func219 Tryz.ntmps219 Tryz.results219 ?_;intro c hL hc hk;obtain⟨hL0,_⟩:=hL;have hw0:bwSector a0:=yx a0 hL0;clear hL0;simp only[pars,Nat.zero_add];iterate 2 refine rS ?_
 refine AWP.ret ?_;subst hR;exact es
end N219
def D_zcg : DF
 | [x0]=>some (.bool (zcg (rdG yq x0)),false,[wG ym yq x0])
 | _=>none
theorem yr0:OkD Tryz.prog 219 D_zcg:=by unfold D_zcg;exact dk N219.den
def zye (a0:Int) (a1:Int):Int:=
 (IntKind.wrap .i64 ((a0.tmod a1)+a1)).tmod a1
namespace N277
theorem DD:DOk Tryz.prog (Go.Ab.DD []):=ye _
theorem den (a0:Int) (a1:Int) (hp0:0<a1):Den Tryz.prog 277 [.int .i64 a0,.int .i64 a1] (.int .i64 (zye a0 a1)):=by
 generalize hR:zye a0 a1=r;unfold zye at hR;refine di Tryz.func277 Tryz.ntmps277 Tryz.results277 ?_;intro c hL hc hk;clear hL;simp only[pars,Nat.zero_add];iterate 2 refine rS ?_
 refine AWP.ret ?_;subst hR;exact es
end N277
def D_zye : DF
 | [x0,x1]=>some (.int .i64 (zye (rdI x0) (rdI x1)),false,[wI .i64 x0,wI .i64 x1,0<(rdI x1)])
 | _=>none
theorem y5t:OkD Tryz.prog 277 D_zye:=by unfold D_zye;exact dk N277.den
def zwd (a0:Sector):Int:=
 IntKind.wrap .i64 ((zye (IntKind.wrap .i64 ((IntKind.wrap .i64 (a0.To-a0.From))-1)) 360)+1)
namespace N221
theorem DD:DOk Tryz.prog (Go.Ab.DD [(277,dP D_zye)]):=ya y5t.e <| ye _
theorem dn:type_of% (@D_zye.eq_1):=by and_intros<;>intros<;>rfl
theorem den (a0:Sector)  : Den Tryz.prog 221 [.agg (ym a0)] (.int .i64 (zwd a0)):=by
 generalize hR:zwd a0=r;unfold zwd at hR;refine di Tryz.func221 Tryz.ntmps221 Tryz.results221 ?_;intro c hL hc hk;obtain⟨hL0,_⟩:=hL;have hw0:bwSector a0:=yx a0 hL0;clear hL0;simp only[pars,Nat.zero_add];iterate 2 refine rS ?_
 refine AWP.ret ?_;subst hR;exact es
end N221
def D_zwd : DF
 | [x0]=>some (.int .i64 (zwd (rdG yq x0)),false,[wG ym yq x0])
 | _=>none
theorem yjw:OkD Tryz.prog 221 D_zwd:=by unfold D_zwd;exact dk N221.den
def zif (a0:Sector) (a1:Int):Bool:=
 decide ((zye (IntKind.wrap .i64 (a1-a0.From)) 360)<(zwd a0))
namespace N220
theorem DD:DOk Tryz.prog (Go.Ab.DD [(221,dP D_zwd),(277,dP D_zye)]):=ya yjw.e <| ya y5t.e <| ye _
theorem dn:type_of% (And.intro @D_zwd.eq_1 <| @D_zye.eq_1):=by and_intros<;>intros<;>rfl
theorem den (a0:Sector) (a1:Int)  : Den Tryz.prog 220 [.agg (ym a0),.int .i64 a1] (.bool (zif a0 a1)):=by
 generalize hR:zif a0 a1=r;unfold zif at hR;refine di Tryz.func220 Tryz.ntmps220 Tryz.results220 ?_;intro c hL hc hk;obtain⟨hL0,hL1,_⟩:=hL;have hw0:bwSector a0:=yx a0 hL0;clear hL0 hL1;simp only[pars,Nat.zero_add];refine rS ?_;refine rD 6 ?_;refine AWP.ret ?_;subst hR;exact es
end N220
def D_zif : DF
 | [x0,x1]=>some (.bool (zif (rdG yq x0) (rdI x1)),false,[wG ym yq x0,wI .i64 x1])
 | _=>none
theorem ym1:OkD Tryz.prog 220 D_zif:=by unfold D_zif;exact dk N220.den
def ylj (a0:(List Sector)) (i1:Nat) (s1:Int) (i2:Nat) (s2:Unit):Except (Bool) (Unit):=
 (bif (((i2:Int) != (i1:Int)) && (zif (a0.getD i1 default) ((a0.getD i2 default).From)))then .error false else .ok ())
def yhh (a0:(List Sector)) (i1:Nat) (s1:Int):Except (Bool) (Int):=
 (bif ((!(zcg (a0.getD i1 default))) || (decide (0<(i1:Int)) && decide (((a0.getD i1 default).From)<=((a0.getD ((IntKind.wrap .i64 ((i1:Int)-1)).toNat) default).From))))then .error false else(match yd (ylj a0 i1 s1) (a0.length-0) 0 ()with|.error e=>.error e|.ok s2=>.ok (IntKind.wrap .i64 (s1+(zwd (a0.getD i1 default))))))
def zab (a0:(List Sector)):Bool:=
 (match yd (yhh a0) (a0.length-0) 0 0 with|.error e=>e|.ok s1=>((zac (a0.length:Int) 12) && decide (s1<=360)))
namespace N139
theorem DD:DOk Tryz.prog (Go.Ab.DD [(110,dP D_zac),(219,dP D_zcg),(220,dP D_zif),(221,dP D_zwd)]):=ya y7j.e <| ya yr0.e <| ya ym1.e <| ya yjw.e <| ye _
theorem dn:type_of% (And.intro @D_zac.eq_1 <| And.intro @D_zcg.eq_1 <| And.intro @D_zif.eq_1 <| @D_zwd.eq_1):=by and_intros<;>intros<;>rfl
theorem den (a0:(List Sector))  : Den Tryz.prog 139 [encL 3 ym a0] (.bool (zab a0)):=by
 generalize hR:zab a0=r;unfold zab at hR;refine di Tryz.func139 Tryz.ntmps139 Tryz.results139 ?_;intro c hL hc hk;obtain⟨hL0,_⟩:=hL;have hw0:a0.length<9223372036854775808:=Nat.lt_succ_of_le (yj hL0).1;have hw1:∀ v∈a0,bwSector v:=fun v hv=>yx v ((yj hL0).2 v hv)
 clear hL0;simp only[pars,Nat.zero_add];iterate 3 refine rS ?_
 refine AWP.block ?_;generalize hz1:yd (yhh a0) (a0.length-0) 0 0=z1 at hR;refine AWP.range (yhh a0) (fun i1 s1=>⟨[(0,encL 3 ym a0),(3,.int .i64 s1),(8,encL 3 ym a0),(9,.int .i64 (a0.length:Int)),(10,.int .i64 (i1:Int))],[]⟩) (fun i1 s1=>True) (a0.length) 0 0 [] hz1 ot wt sm ?_;clear hz1;intro i1 s1 hi1 hW1 hz1;refine rS ?_;refine AWP.seq ?_;refine AWP.cond rfl (fun hb => ?_) (fun hb => ?_)
 ·have hlt1:i1<a0.length:=ot
  rw[yg hlt1]at hz1;simp only[yhh]at hz1;refine rS ?_;refine rD 18 ?_;refine AWP.cond rfl (fun hb => ?_) (fun hb => ?_)
  ·simp only[hb,cond_true]at hz1
   refine rS ?_;refine AWP.ret ?_;subst hz1;dsimp only at hR;subst hR;exact es
  ·simp only[hb,cond_false]at hz1
   refine rS ?_;refine AWP.block ?_;generalize hz2:yd (ylj a0 i1 s1) (a0.length-0) 0 ()=z2 at hz1;refine AWP.range (ylj a0 i1 s1) (fun i2 s2=>⟨[(0,encL 3 ym a0),(3,.int .i64 s1),(4,.int .i64 (i1:Int)),(5,.ptr 0 0),(8,encL 3 ym a0),(9,.int .i64 (a0.length:Int)),(10,.int .i64 (i1:Int)),(33,encL 3 ym a0),(34,.int .i64 (a0.length:Int)),(35,.int .i64 (i2:Int))],[.box [.int .i64 ((a0.getD i1 default).From),.int .i64 ((a0.getD i1 default).To),.str ((a0.getD i1 default).Color)]]⟩) (fun i2 s2=>True) (a0.length) 0 () [0] hz2 ot wt sm ?_;clear hz2;intro i2 s2 hi2 hW2 hz2;refine rS ?_;refine AWP.seq ?_;refine AWP.cond rfl (fun hb => ?_) (fun hb => ?_)
   ·have hlt2:i2<a0.length:=ot
    rw[yg hlt2]at hz2;simp only[ylj]at hz2;iterate 2 refine rS ?_
    refine AWP.cond rfl (fun hb => ?_) (fun hb => ?_)
    ·simp only[hb,cond_true]at hz2
     refine rS ?_;refine AWP.ret ?_;subst hz2;dsimp only at hz1;subst hz1;dsimp only at hR;subst hR;exact es
    ·simp only[hb,cond_false]at hz2
     refine rS ?_;exact⟨_,[0],hlt2,wt,hz2,sm⟩
   ·obtain rfl:i2=a0.length:=ot
    rw[yh (Nat.le_refl _)]at hz2;subst hz2;dsimp only at hz1;refine AWP.exit ?_;refine yb ?_;iterate 2 refine rS ?_
    exact⟨_,[],hlt1,wt,hz1,sm⟩
 ·obtain rfl:i1=a0.length:=ot
  rw[yh (Nat.le_refl _)]at hz1;subst hz1;dsimp only at hR;refine AWP.exit ?_;refine yb ?_;refine rS ?_;refine AWP.ret ?_;subst hR;exact es
end N139
def D_zab : DF
 | [x0]=>some (.bool (zab (rdL yq x0)),false,[wL 3 ym yq x0])
 | _=>none
theorem y5o:OkD Tryz.prog 139 D_zab:=by unfold D_zab;exact dk N139.den
def yip (a0:(List Sector)) (i1:Nat) (s1:List UInt8) (i2:Nat) (s2:List UInt8):Except ((List UInt8)) (List UInt8):=
 (bif ((((a0.getD i2 default).Color) == (([87,82,71,89].take ((IntKind.wrap .i64 ((i1:Int)+1)).toNat)).drop i1)) && (!(zub s2 (([87,82,71,89].take ((IntKind.wrap .i64 ((i1:Int)+1)).toNat)).drop i1))))then .ok (s2++(([87,82,71,89].take ((IntKind.wrap .i64 ((i1:Int)+1)).toNat)).drop i1))else .ok s2)
def y4m (a0:(List Sector)) (i1:Nat) (s1:List UInt8):Except ((List UInt8)) (List UInt8):=
 (match yd (yip a0 i1 s1) (a0.length-0) 0 s1 with|.error e=>.error e|.ok s2=>.ok s2)
def zoc (a0:(List Sector)):(List UInt8):=
 (match yd (y4m a0) ([87,82,71,89].length-0) 0 []with|.error e=>e|.ok s1=>s1)
namespace N140
theorem DD:DOk Tryz.prog (Go.Ab.DD [(222,dP D_zub)]):=ya y2u.e <| ye _
theorem dn:type_of% (@D_zub.eq_1):=by and_intros<;>intros<;>rfl
theorem o0 {p:Prop} (h:p:=by(first|(have h4:=hq4 i1;have h1:=hW1;have h2:=hW2;and_intros<;>first|omega|exact yvv (by omega)));first|done|fail):p:=h
theorem den (a0:(List Sector)) (hb0:a0.length<1099511627776) (hb1:∀ v∈a0,bdSector v):Den Tryz.prog 140 [encL 3 ym a0] (.str (zoc a0)):=by
 generalize hR:zoc a0=r;unfold zoc at hR;refine di Tryz.func140 Tryz.ntmps140 Tryz.results140 ?_;intro c hL hc hk;obtain⟨hL0,_⟩:=hL;have hw0:a0.length<9223372036854775808:=Nat.lt_succ_of_le (yj hL0).1;have hw1:∀ v∈a0,bwSector v:=fun v hv=>yx v ((yj hL0).2 v hv)
 clear hL0;simp only[pars,Nat.zero_add];have hq4:=ye4;iterate 3 refine rS ?_
 refine AWP.block ?_;generalize hz1:yd (y4m a0) ([87,82,71,89].length-0) 0 []=z1 at hR;refine AWP.range (y4m a0) (fun i1 s1=>⟨[(0,encL 3 ym a0),(3,.str s1),(8,.ptr 0 0)],[.it [87,82,71,89] i1 (decide (i1<[87,82,71,89].length))]⟩) (fun i1 s1=>s1.length<=1099511627776 * i1) ([87,82,71,89].length) 0 [] [0] hz1 ot (by(simp)) sm ?_;clear hz1;intro i1 s1 hi1 hW1 hz1;refine AWP.seq ?_;by_cases hlt1:i1<[87,82,71,89].length
 ·rw[yg hlt1]at hz1;simp only[y4m]at hz1
  rw[decide_eq_true hlt1];refine rS ?_;refine AWP.seq ?_;refine AWP.cond rfl (fun hb => ?_) (fun hb=>by cases hb);iterate 2 refine rS ?_
  refine AWP.block ?_;generalize hz2:yd (yip a0 i1 s1) (a0.length-0) 0 s1=z2 at hz1;refine AWP.range (yip a0 i1 s1) (fun i2 s2=>⟨[(0,encL 3 ym a0),(3,.str s2),(4,.int .i64 (i1:Int)),(8,.ptr 0 0),(12,encL 3 ym a0),(13,.int .i64 (a0.length:Int)),(14,.int .i64 (i2:Int))],[.it [87,82,71,89] (i1+1) (decide (i1+1<[87,82,71,89].length))]⟩) (fun i2 s2=>s2.length<=1099511627776 * i1+i2) (a0.length) 0 s1 [0] hz2 ot (by(exact hW1)) sm ?_;clear hz2;intro i2 s2 hi2 hW2 hz2;refine rS ?_;refine AWP.seq ?_;refine AWP.cond rfl (fun hb => ?_) (fun hb => ?_)
  ·have hlt2:i2<a0.length:=ot
   rw[yg hlt2]at hz2;simp only[yip]at hz2;iterate 3 refine rS ?_
   refine AWP.cond rfl (fun hb => ?_) (fun hb => ?_)
   ·simp only[hb,cond_true]at hz2
    iterate 2 refine rS ?_
    exact⟨_,[0],hlt2,by(have h4:=hq4 i1;have h2:=hW2;simp only[ln]at *;omega),hz2,sm⟩
   ·simp only[hb,cond_false]at hz2
    refine rS ?_;exact⟨_,[0],hlt2,by(have h4:=hq4 i1;have h2:=hW2;simp only[ln]at *;omega),hz2,sm⟩
  ·obtain rfl:i2=a0.length:=ot
   rw[yh (Nat.le_refl _)]at hz2;subst hz2;dsimp only at hz1;refine AWP.exit ?_;refine yb ?_;exact⟨_,[0],hlt1,by(have h1:=hW1;omega),hz1,sm⟩
 ·obtain rfl:i1=[87,82,71,89].length:=by omega
  rw[yh (Nat.le_refl _)]at hz1;subst hz1;dsimp only at hR;simp only[Nat.lt_irrefl,decide_false];refine rS ?_;refine AWP.seq ?_;refine AWP.cond rfl (fun hb=>by cases hb) (fun hb => ?_);refine AWP.exit ?_;refine yb ?_;refine rS ?_;refine AWP.ret ?_;subst hR;exact es
end N140
def D_zoc : DF
 | [x0]=>some (.str (zoc (rdL yq x0)),false,[wL 3 ym yq x0,(rdL yq x0).length<1099511627776,∀ v∈(rdL yq x0),bdSector v])
 | _=>none
theorem yo4:OkD Tryz.prog 140 D_zoc:=by unfold D_zoc;exact dk N140.den
def zvf (a0:Int):Bool:=
 (ze a0 1 9)
namespace N210
theorem DD:DOk Tryz.prog (Go.Ab.DD [(111,dP D_ze)]):=ya y7b.e <| ye _
theorem dn:type_of% (@D_ze.eq_1):=by and_intros<;>intros<;>rfl
theorem ol:type_of% (@ze.eq_1):=@ze.eq_1
theorem den (a0:Int)  : Den Tryz.prog 210 [.int .i64 a0] (.bool (zvf a0)):=by
 generalize hR:zvf a0=r;unfold zvf at hR;refine di Tryz.func210 Tryz.ntmps210 Tryz.results210 ?_;intro c hL hc hk;clear hL;simp only[pars,Nat.zero_add];iterate 2 refine rS ?_
 refine AWP.ret ?_;subst hR;exact es
end N210
def D_zvf : DF
 | [x0]=>some (.bool (zvf (rdI x0)),false,[wI .i64 x0])
 | _=>none
theorem ysv:OkD Tryz.prog 210 D_zvf:=by unfold D_zvf;exact dk N210.den
def zjf (a0:Int) (a1:Int):Bool:=
 (decide (0<=a0) && decide (a0<a1))
namespace N284
theorem DD:DOk Tryz.prog (Go.Ab.DD []):=ye _
theorem den (a0:Int) (a1:Int)  : Den Tryz.prog 284 [.int .i64 a0,.int .i64 a1] (.bool (zjf a0 a1)):=by
 generalize hR:zjf a0 a1=r;unfold zjf at hR;refine di Tryz.func284 Tryz.ntmps284 Tryz.results284 ?_;intro c hL hc hk;clear hL;simp only[pars,Nat.zero_add];iterate 2 refine rS ?_
 refine AWP.ret ?_;subst hR;exact es
end N284
def D_zjf : DF
 | [x0,x1]=>some (.bool (zjf (rdI x0) (rdI x1)),false,[wI .i64 x0,wI .i64 x1])
 | _=>none
theorem y32:OkD Tryz.prog 284 D_zjf:=by unfold D_zjf;exact dk N284.den
def zob (a0:Int) (a1:(List (List UInt8))):(List UInt8):=
 (bif (!(zjf a0 (a1.length:Int)))then[]else(a1.getD ((a0).toNat) default))
namespace N227
theorem DD:DOk Tryz.prog (Go.Ab.DD [(284,dP D_zjf)]):=ya y32.e <| ye _
theorem dn:type_of% (@D_zjf.eq_1):=by and_intros<;>intros<;>rfl
theorem ol:type_of% (@zjf.eq_1):=@zjf.eq_1
theorem den (a0:Int) (a1:(List (List UInt8)))  : Den Tryz.prog 227 [.int .i64 a0,encL 1 eS a1] (.str (zob a0 a1)):=by
 generalize hR:zob a0 a1=r;unfold zob at hR;refine di Tryz.func227 Tryz.ntmps227 Tryz.results227 ?_;intro c hL hc hk;obtain⟨hL0,hL1,_⟩:=hL;have hw0:a1.length<9223372036854775808:=Nat.lt_succ_of_le (yj hL1).1;have hw1:∀ v∈a1,bwS v:=fun v hv=>y7x v ((yj hL1).2 v hv)
 clear hL0 hL1;simp only[pars,Nat.zero_add];iterate 2 refine rS ?_
 refine AWP.cond rfl (fun hb => ?_) (fun hb => ?_)
 ·replace hR:=ct hR
  refine rS ?_;refine AWP.ret ?_;subst hR;exact es
 ·replace hR:=cf hR
  refine rS ?_;refine AWP.ret ?_;subst hR;exact es
end N227
def D_zob : DF
 | [x0,x1]=>some (.str (zob (rdI x0) (rdL dS x1)),false,[wI .i64 x0,wL 1 eS dS x1])
 | _=>none
theorem ygh:OkD Tryz.prog 227 D_zob:=by unfold D_zob;exact dk N227.den
def zwf (a0:Int):(List UInt8):=
 (zob a0 ([[],[82],[71],[66,89],[66,89,66],[89,66],[89,66,89],[66,82,66],[82,87],[89]]:List (List UInt8)))
namespace N211
theorem DD:DOk Tryz.prog (Go.Ab.DD [(227,dP D_zob)]):=ya ygh.e <| ye _
theorem dn:type_of% (@D_zob.eq_1):=by and_intros<;>intros<;>rfl
theorem lx {p:Prop} (h:p:=by(exact lxx);first|done|fail):p:=h
theorem den (a0:Int)  : Den Tryz.prog 211 [.int .i64 a0] (.str (zwf a0)):=by
 generalize hR:zwf a0=r;unfold zwf at hR;refine di Tryz.func211 Tryz.ntmps211 Tryz.results211 ?_;intro c hL hc hk;clear hL;simp only[pars,Nat.zero_add];iterate 2 refine rS ?_
 refine AWP.ret ?_;subst hR;exact es
end N211
def D_zwf : DF
 | [x0]=>some (.str (zwf (rdI x0)),false,[wI .i64 x0])
 | _=>none
theorem ylu:OkD Tryz.prog 211 D_zwf:=by unfold D_zwf;exact dk N211.den
theorem y2v {P:List UInt8->Prop} (n:Int) (l:List (List UInt8)) (h0:P []) (h:∀ y∈l,P y):P (zob n l):=by
 unfold zob
 cases hb:zjf n (l.length:Int)with
 | false=>exact h0
 | true=>
  simp only[Bool.not_true,cond_false];rw[List.getD_eq_getElem?_getD];by_cases hi:n.toNat<l.length
  ·rw[List.getElem?_eq_getElem hi];exact h _ (List.getElem_mem hi)
  ·rw[List.getElem?_eq_none (by omega)];exact h0
def zbe (a0:Int):(List (List UInt8)):=
 (zpg (zob a0 ([[],[99,97,110,32,112,105,108,108,97,114,32,115,112,97,114],[99,111,110,101,32,112,105,108,108,97,114,32,115,112,97,114],[112,105,108,108,97,114,32,115,112,97,114],[112,105,108,108,97,114,32,115,112,97,114],[112,105,108,108,97,114,32,115,112,97,114],[112,105,108,108,97,114,32,115,112,97,114],[112,105,108,108,97,114,32,115,112,97,114],[115,112,104,101,114,101,32,112,105,108,108,97,114,32,115,112,97,114],[99,97,110,32,99,111,110,101,32,112,105,108,108,97,114,32,115,112,97,114,32,115,112,104,101,114,101]]:List (List UInt8))))
namespace N213
theorem DD:DOk Tryz.prog (Go.Ab.DD [(227,dP D_zob),(266,dP D_zpg)]):=ya ygh.e <| ya yw2.e <| ye _
theorem dn:type_of% (And.intro @D_zob.eq_1 <| @D_zpg.eq_1):=by and_intros<;>intros<;>rfl
theorem o0 {p:Prop} (h:p:=by(first|(and_intros<;>first|exact y2v (P:=fun y=>y.length<=1048576) _ _ (by simp) (by simp)|exact y2v (P:=fun y=>∀ x∈y,x.toNat<128) _ _ (by simp) (by simp)));first|done|fail):p:=h
theorem lx {p:Prop} (h:p:=by(exact lxx);first|done|fail):p:=h
theorem den (a0:Int)  : Den Tryz.prog 213 [.int .i64 a0] (ownL 9 1 eS (zbe a0)):=by
 generalize hR:zbe a0=r;unfold zbe at hR;refine di Tryz.func213 Tryz.ntmps213 Tryz.results213 ?_;intro c hL hc hk;clear hL;simp only[pars,Nat.zero_add];iterate 2 refine rS ?_
 refine AWP.ret ?_;subst hR;exact es
end N213
def D_zbe : DF
 | [x0]=>some (ownL 9 1 eS (zbe (rdI x0)),false,[wI .i64 x0])
 | _=>none
def Dz_zbe : DF
 | [x0]=>some (ownL 9 1 eS (zbe (rdI x0)),true,[wI .i64 x0])
 | _=>none
theorem yq1:OkD Tryz.prog 213 D_zbe:=by unfold D_zbe;exact dk N213.den
theorem yj0:OkD Tryz.prog 213 Dz_zbe:=by unfold Dz_zbe;exact dk N213.den
def zxf (a0:Int):(List UInt8):=
 (zob a0 ([[],[99,97,110],[99,111,110,101],[117,112],[98,97,115,101],[100,111,119,110],[112,111,105,110,116],[98,97,108,108,115],[98,97,108,108],[99,114,111,115,115]]:List (List UInt8)))
namespace N214
theorem DD:DOk Tryz.prog (Go.Ab.DD [(227,dP D_zob)]):=ya ygh.e <| ye _
theorem dn:type_of% (@D_zob.eq_1):=by and_intros<;>intros<;>rfl
theorem lx {p:Prop} (h:p:=by(exact lxx);first|done|fail):p:=h
theorem den (a0:Int)  : Den Tryz.prog 214 [.int .i64 a0] (.str (zxf a0)):=by
 generalize hR:zxf a0=r;unfold zxf at hR;refine di Tryz.func214 Tryz.ntmps214 Tryz.results214 ?_;intro c hL hc hk;clear hL;simp only[pars,Nat.zero_add];iterate 2 refine rS ?_
 refine AWP.ret ?_;subst hR;exact es
end N214
def D_zxf : DF
 | [x0]=>some (.str (zxf (rdI x0)),false,[wI .i64 x0])
 | _=>none
theorem ybu:OkD Tryz.prog 214 D_zxf:=by unfold D_zxf;exact dk N214.den
def zvc (a0:Mark):Bool:=
 (bif (a0.Kind == 0 && (a0.Colors == [] && (a0.Shape == [] && a0.Topmark == [])))then true else((((zvf a0.Kind) && (a0.Colors == (zwf a0.Kind))) && (zhf (zbe a0.Kind) a0.Shape)) && ((a0.Topmark == []) || (a0.Topmark == (zxf a0.Kind)))))
namespace N135
theorem DD:DOk Tryz.prog (Go.Ab.DD [(210,dP D_zvf),(211,dP D_zwf),(212,dP D_zhf),(213,dP D_zbe),(214,dP D_zxf)]):=ya ysv.e <| ya ylu.e <| ya y9u.e <| ya yq1.e <| ya ybu.e <| ye _
theorem DZ:DOk Tryz.prog (Go.Ab.DD [(210,dP D_zvf),(211,dP D_zwf),(212,dP D_zhf),(213,dP Dz_zbe),(214,dP D_zxf)]):=ya ysv.e <| ya ylu.e <| ya y9u.e <| ya yj0.e <| ya ybu.e <| ye _
theorem dn:type_of% (And.intro @D_zvf.eq_1 <| And.intro @D_zwf.eq_1 <| And.intro @D_zhf.eq_1 <| And.intro @D_zbe.eq_1 <| And.intro @D_zxf.eq_1 <| @Dz_zbe.eq_1):=by and_intros<;>intros<;>rfl
theorem den (a0:Mark) (hb0:bdMark a0):Den Tryz.prog 135 [.agg (ykd a0)] (.bool (zvc a0)):=by
 generalize hR:zvc a0=r;unfold zvc at hR;refine di Tryz.func135 Tryz.ntmps135 Tryz.results135 ?_;intro c hL hc hk;obtain⟨hL0,_⟩:=hL;have hw0:bwMark a0:=ywd a0 hL0;clear hL0;simp only[pars,Nat.zero_add];iterate 2 refine rS ?_
 refine AWP.cond rfl (fun hb => ?_) (fun hb => ?_)
 ·replace hR:=ct hR
  refine rS ?_;refine AWP.ret ?_;subst hR;exact es
 ·replace hR:=cf hR
  refine rZ 32 ?_;refine AWP.ret ?_;subst hR;exact es
end N135
def D_zvc : DF
 | [x0]=>some (.bool (zvc (rdG ype x0)),false,[wG ykd ype x0,bdMark (rdG ype x0)])
 | _=>none
theorem yxo:OkD Tryz.prog 135 D_zvc:=by unfold D_zvc;exact dk N135.den
def yrm (a0:(List Int)) (a1:(List Int)) (i1:Nat) (s1:Unit):Except (Bool) (Unit):=
 (bif ((a0.getD i1 default) != (a1.getD i1 default))then .error false else .ok ())
def zce (a0:(List Int)) (a1:(List Int)):Bool:=
 (bif ((a0.length:Int) != (a1.length:Int))then false else(match yd (yrm a0 a1) (a0.length-0) 0 ()with|.error e=>e|.ok s1=>true))
namespace N170
theorem DD:DOk Tryz.prog (Go.Ab.DD []):=ye _
theorem den (a0:(List Int)) (a1:(List Int))  : Den Tryz.prog 170 [encL 1 yt a0,encL 1 yt a1] (.bool (zce a0 a1)):=by
 generalize hR:zce a0 a1=r;unfold zce at hR;refine di Tryz.func170 Tryz.ntmps170 Tryz.results170 ?_;intro c hL hc hk;obtain⟨hL0,hL1,_⟩:=hL;have hw0:a0.length<9223372036854775808:=Nat.lt_succ_of_le (yj hL0).1;have hw1:a1.length<9223372036854775808:=Nat.lt_succ_of_le (yj hL1).1;clear hL0 hL1;simp only[pars,Nat.zero_add];iterate 2 refine rS ?_
 refine AWP.cond rfl (fun hb => ?_) (fun hb => ?_)
 ·replace hR:=ct hR
  refine rS ?_;refine AWP.ret ?_;subst hR;exact es
 ·replace hR:=cf hR
  refine rS ?_;refine AWP.block ?_;generalize hz1:yd (yrm a0 a1) (a0.length-0) 0 ()=z1 at hR;refine AWP.range (yrm a0 a1) (fun i1 s1=>⟨[(0,encL 1 yt a0),(1,encL 1 yt a1),(12,.int .i64 (a0.length:Int)),(13,.int .i64 (i1:Int))],[]⟩) (fun i1 s1=>True) (a0.length) 0 () [] hz1 ot wt sm ?_;clear hz1;intro i1 s1 hi1 hW1 hz1;refine rS ?_;refine AWP.seq ?_;refine AWP.cond rfl (fun hb => ?_) (fun hb => ?_)
  ·have hlt1:i1<a0.length:=ot
   rw[yg hlt1]at hz1;simp only[yrm]at hz1;refine rS ?_;refine rD 8 ?_;refine AWP.cond rfl (fun hb => ?_) (fun hb => ?_)
   ·simp only[hb,cond_true]at hz1
    refine rS ?_;refine AWP.ret ?_;subst hz1;dsimp only at hR;subst hR;exact es
   ·simp only[hb,cond_false]at hz1
    refine rS ?_;exact⟨_,[],hlt1,wt,hz1,sm⟩
  ·obtain rfl:i1=a0.length:=ot
   rw[yh (Nat.le_refl _)]at hz1;subst hz1;dsimp only at hR;refine AWP.exit ?_;refine yb ?_;refine rS ?_;refine AWP.ret ?_;subst hR;exact es
end N170
def D_zce : DF
 | [x0,x1]=>some (.bool (zce (rdL y5b x0) (rdL y5b x1)),false,[wL 1 yt y5b x0,wL 1 yt y5b x1])
 | _=>none
theorem yn2:OkD Tryz.prog 170 D_zce:=by unfold D_zce;exact dk N170.den
theorem yim (a b:List Int):zce a b=decide (a=b):=by
 unfold zce;by_cases hl:a.length=b.length
 ·have h1:((a.length:Int) != (b.length:Int))=false:=by simp[hl]
  rw[h1,cond_false,y8c (b:=yrm a b) (fun j => !decide (a.getD j default=b.getD j default)) false (fun j u _ _=>by simp only[yrm,ned])];simp only[Nat.sub_zero,Nat.zero_add];rw[ycq a b hl];by_cases h:a=b<;>simp[h]
 ·have h1:((a.length:Int) != (b.length:Int))=true:=by simp;omega
  have h2:¬ a=b:=fun e=>hl (by rw[e])
  rw[h1,cond_true,decide_eq_false h2]
def zke (a0:Int):Bool:=
 (ze a0 1 9999)
namespace N107
theorem DD:DOk Tryz.prog (Go.Ab.DD [(111,dP D_ze)]):=ya y7b.e <| ye _
theorem dn:type_of% (@D_ze.eq_1):=by and_intros<;>intros<;>rfl
theorem ol:type_of% (@ze.eq_1):=@ze.eq_1
theorem den (a0:Int)  : Den Tryz.prog 107 [.int .i64 a0] (.bool (zke a0)):=by
 generalize hR:zke a0=r;unfold zke at hR;refine di Tryz.func107 Tryz.ntmps107 Tryz.results107 ?_;intro c hL hc hk;clear hL;simp only[pars,Nat.zero_add];iterate 2 refine rS ?_
 refine AWP.ret ?_;subst hR;exact es
end N107
def D_zke : DF
 | [x0]=>some (.bool (zke (rdI x0)),false,[wI .i64 x0])
 | _=>none
theorem ykw:OkD Tryz.prog 107 D_zke:=by unfold D_zke;exact dk N107.den
def zhd (a0:Point):Bool:=
 ((ze a0.X 0 200000) && (ze a0.Y 0 200000))
namespace N133
theorem DD:DOk Tryz.prog (Go.Ab.DD [(111,dP D_ze)]):=ya y7b.e <| ye _
theorem dn:type_of% (@D_ze.eq_1):=by and_intros<;>intros<;>rfl
theorem ol:type_of% (@ze.eq_1):=@ze.eq_1
theorem den (a0:Point)  : Den Tryz.prog 133 [.agg (ygd a0)] (.bool (zhd a0)):=by
 generalize hR:zhd a0=r;unfold zhd at hR;refine di Tryz.func133 Tryz.ntmps133 Tryz.results133 ?_;intro c hL hc hk;clear hL;simp only[pars,Nat.zero_add];iterate 2 refine rS ?_
 refine AWP.ret ?_;subst hR;exact es
end N133
def D_zhd : DF
 | [x0]=>some (.bool (zhd (rdG ydf x0)),false,[wG ygd ydf x0])
 | _=>none
theorem ywn:OkD Tryz.prog 133 D_zhd:=by unfold D_zhd;exact dk N133.den
def zkg (a0:Int):Bool:=
 (ze a0 0 3000)
namespace N134
theorem DD:DOk Tryz.prog (Go.Ab.DD [(111,dP D_ze)]):=ya y7b.e <| ye _
theorem dn:type_of% (@D_ze.eq_1):=by and_intros<;>intros<;>rfl
theorem ol:type_of% (@ze.eq_1):=@ze.eq_1
theorem den (a0:Int)  : Den Tryz.prog 134 [.int .i64 a0] (.bool (zkg a0)):=by
 generalize hR:zkg a0=r;unfold zkg at hR;refine di Tryz.func134 Tryz.ntmps134 Tryz.results134 ?_;intro c hL hc hk;clear hL;simp only[pars,Nat.zero_add];iterate 2 refine rS ?_
 refine AWP.ret ?_;subst hR;exact es
end N134
def D_zkg : DF
 | [x0]=>some (.bool (zkg (rdI x0)),false,[wI .i64 x0])
 | _=>none
theorem yg4:OkD Tryz.prog 134 D_zkg:=by unfold D_zkg;exact dk N134.den
end Go.Ab
