/- Walks and lemmas. No conditions. -/
import Derived.Test.YthmfknndfeepfaaGreatDoorEAk
set_option linter.unusedSectionVars false
set_option linter.unusedVariables false
set_option linter.unusedSimpArgs false
set_option maxHeartbeats 1000000
namespace Go.Ab
open Go Go.Proofs
def zxf (a0:Int):Bool:=
 (decide (97<=a0) && decide (a0<=122))
namespace N240
theorem DD:DOk Tryz.prog (Go.Ab.DD []):=yc _
theorem den (a0:Int)  : Den Tryz.prog 240 [.int .u8 a0] (.bool (zxf a0)):=by
 generalize hR:zxf a0=r;unfold zxf at hR;refine di Tryz.func240 Tryz.ntmps240 Tryz.results240 ?_;intro c hL hc hk;clear hL;simp only[pars,Nat.zero_add];refine rS ?_;exact retR
end N240
def D_zxf : DF
 | [x0]=>some (.bool (zxf (rdI x0)),false,[wI .u8 x0])
 | _=>none
theorem ye8:OkD Tryz.prog 240 D_zxf:=by unfold D_zxf;exact dk N240.den
def zih (a0:Int):Bool:=
 (decide (48<=a0) && decide (a0<=57))
namespace N241
theorem DD:DOk Tryz.prog (Go.Ab.DD []):=yc _
theorem den (a0:Int)  : Den Tryz.prog 241 [.int .u8 a0] (.bool (zih a0)):=by
 generalize hR:zih a0=r;unfold zih at hR;refine di Tryz.func241 Tryz.ntmps241 Tryz.results241 ?_;intro c hL hc hk;clear hL;simp only[pars,Nat.zero_add];refine rS ?_;exact retR
end N241
def D_zih : DF
 | [x0]=>some (.bool (zih (rdI x0)),false,[wI .u8 x0])
 | _=>none
theorem yq5:OkD Tryz.prog 241 D_zih:=by unfold D_zih;exact dk N241.den
def ynx (a0:(List UInt8)) (i1:Nat) (s1:Unit):Except (Bool) (Unit):=
 (bif ((!(zxf ((a0.getD i1 0).toNat:Int))) && (!(zih ((a0.getD i1 0).toNat:Int))))then .error false else .ok ())
def zqc (a0:(List UInt8)):Bool:=
 (bif (((a0 == []) || decide (10<(a0.length:Int))) || (!(zxf ((a0.getD 0 0).toNat:Int))))then false else(match ye (ynx a0) (a0.length-0) 0 ()with|.error e=>e|.ok s1=>true))
namespace N185
theorem DD:DOk Tryz.prog (Go.Ab.DD [(240,dP D_zxf),(241,dP D_zih)]):=ya ye8.e <| ya yq5.e <| yc _
abbrev dn:=cj @D_zxf.eq_1 <| @D_zih.eq_1
theorem den (a0:(List UInt8))  : Den Tryz.prog 185 [.str a0] (.bool (zqc a0)):=by
 generalize hR:zqc a0=r;unfold zqc at hR;refine di Tryz.func185 Tryz.ntmps185 Tryz.results185 ?_;intro c hL hc hk;obtain⟨hL0,_⟩:=hL;have hw0:=lwS hL0;clear hL0;simp only[pars,Nat.zero_add];iterate 2 refine rS ?_
 refine yb ?_ ?_<;>intro hb
 ·replace hR:=ct hR
  exact retR
 ·replace hR:=cf hR
  refine rS ?_;refine AWP.block ?_;generalize hz1:ye (ynx a0) (a0.length-0) 0 ()=z1 at hR;refine AWP.range (ynx a0) (fun i1 s1=>⟨[(0,.str a0),(3,.int .i64 (i1:Int))],[]⟩) (fun i1 s1=>True) (a0.length) 0 () [] hz1 ot wt sm ?_;clear hz1;intro i1 s1 hi1 hW1 hz1;refine rS ?_;refine yb ?_ ?_<;>intro hb
  ·have hlt1:i1<a0.length:=ot
   rw[yi hlt1]at hz1;simp only[ynx]at hz1;refine rS ?_;refine yb ?_ ?_<;>intro hb
   ·simp only[hb,cond_true]at hz1
    refine rS ?_;refine AWP.ret ?_;subst hz1;dsimp only at hR;subst hR;exact es
   ·simp only[hb,cond_false]at hz1
    refine rS ?_;exact⟨_,[],hlt1,wt,hz1,sm⟩
  ·obtain rfl:i1=a0.length:=ot
   exact retX
end N185
def D_zqc : DF
 | [x0]=>some (.bool (zqc (rdS x0)),false,[wS x0])
 | _=>none
theorem yd5:OkD Tryz.prog 185 D_zqc:=by unfold D_zqc;exact dk N185.den
def ynu (a0:(List Int)) (i1:Nat) (s1:Int):Except (Int) (Int):=
 .ok (IntKind.wrap .i64 (s1+(a0.getD i1 default)))
def znf (a0:(List Int)):Int:=
 (bif ((a0.length:Int) == 0)then 1 else(match ye (ynu a0) (a0.length-0) 0 0 with|.error e=>e|.ok s1=>s1))
namespace N196
theorem DD:DOk Tryz.prog (Go.Ab.DD []):=yc _
theorem den (a0:(List Int))  : Den Tryz.prog 196 [encL 1 yy a0] (.int .i64 (znf a0)):=by
 generalize hR:znf a0=r;unfold znf at hR;refine di Tryz.func196 Tryz.ntmps196 Tryz.results196 ?_;intro c hL hc hk;obtain⟨hL0,_⟩:=hL;have hw0:=lwA hL0;clear hL0;simp only[pars,Nat.zero_add];iterate 2 refine rS ?_
 refine yb ?_ ?_<;>intro hb
 ·replace hR:=ct hR
  exact retR
 ·replace hR:=cf hR
  iterate 2 refine rS ?_
  refine AWP.block ?_;generalize hz1:ye (ynu a0) (a0.length-0) 0 0=z1 at hR;refine AWP.range (ynu a0) (fun i1 s1=>⟨[(0,encL 1 yy a0),(3,.int .i64 s1),(4,.int .i64 (i1:Int))],[]⟩) (fun i1 s1=>True) (a0.length) 0 0 [] hz1 ot wt sm ?_;clear hz1;intro i1 s1 hi1 hW1 hz1;refine rS ?_;refine yb ?_ ?_<;>intro hb
  ·have hlt1:i1<a0.length:=ot
   rw[yi hlt1]at hz1;simp only[ynu]at hz1;iterate 2 refine rS ?_
   exact⟨_,[],hlt1,wt,hz1,sm⟩
  ·obtain rfl:i1=a0.length:=ot
   exact retX
end N196
def D_znf : DF
 | [x0]=>some (.int .i64 (znf (rdL y5b x0)),false,[wL 1 yy y5b x0])
 | _=>none
theorem yn7:OkD Tryz.prog 196 D_znf:=by unfold D_znf;exact dk N196.den
def zj (a0:Int) (a1:Int) (a2:Int):Bool:=
 (decide (a1<=a0) && decide (a0<=a2))
namespace N75
theorem DD:DOk Tryz.prog (Go.Ab.DD []):=yc _
theorem den (a0:Int) (a1:Int) (a2:Int)  : Den Tryz.prog 75 [.int .i64 a0,.int .i64 a1,.int .i64 a2] (.bool (zj a0 a1 a2)):=by
 generalize hR:zj a0 a1 a2=r;unfold zj at hR;refine di Tryz.func75 Tryz.ntmps75 Tryz.results75 ?_;intro c hL hc hk;clear hL;simp only[pars,Nat.zero_add];refine rS ?_;exact retR
end N75
def D_zj : DF
 | [x0,x1,x2]=>some (.bool (zj (rdI x0) (rdI x1) (rdI x2)),false,[wI .i64 x0,wI .i64 x1,wI .i64 x2])
 | _=>none
theorem yyf:OkD Tryz.prog 75 D_zj:=by unfold D_zj;exact dk N75.den
def yat (a0:(List Int)) (i1:Nat) (s1:Unit):Except (Bool) (Unit):=
 (bif (!(zj (a0.getD i1 default) 1 9))then .error false else .ok ())
def zuc (a0:(List Int)):Bool:=
 (match ye (yat a0) (a0.length-0) 0 ()with|.error e=>e|.ok s1=>((decide ((a0.length:Int)<=4) && (!(((a0.length:Int) == 1) && ((a0.getD 0 default) == 1)))) && decide ((znf a0)<=12)))
namespace N142
theorem DD:DOk Tryz.prog (Go.Ab.DD [(196,dP D_znf),(75,dP D_zj)]):=ya yn7.e <| ya yyf.e <| yc _
abbrev dn:=cj @D_znf.eq_1 <| @D_zj.eq_1
abbrev ol:=@zj.eq_1
theorem den (a0:(List Int))  : Den Tryz.prog 142 [encL 1 yy a0] (.bool (zuc a0)):=by
 generalize hR:zuc a0=r;unfold zuc at hR;refine di Tryz.func142 Tryz.ntmps142 Tryz.results142 ?_;intro c hL hc hk;obtain⟨hL0,_⟩:=hL;have hw0:=lwA hL0;clear hL0;simp only[pars,Nat.zero_add];iterate 2 refine rS ?_
 refine AWP.block ?_;generalize hz1:ye (yat a0) (a0.length-0) 0 ()=z1 at hR;refine AWP.range (yat a0) (fun i1 s1=>⟨[(0,encL 1 yy a0),(3,.int .i64 (i1:Int))],[]⟩) (fun i1 s1=>True) (a0.length) 0 () [] hz1 ot wt sm ?_;clear hz1;intro i1 s1 hi1 hW1 hz1;refine rS ?_;refine yb ?_ ?_<;>intro hb
 ·have hlt1:i1<a0.length:=ot
  rw[yi hlt1]at hz1;simp only[yat]at hz1;refine rS ?_;refine yb ?_ ?_<;>intro hb
  ·simp only[hb,cond_true]at hz1
   refine rS ?_;refine AWP.ret ?_;subst hz1;dsimp only at hR;subst hR;exact es
  ·simp only[hb,cond_false]at hz1
   refine rS ?_;exact⟨_,[],hlt1,wt,hz1,sm⟩
 ·obtain rfl:i1=a0.length:=ot
  exact retX
end N142
def D_zuc : DF
 | [x0]=>some (.bool (zuc (rdL y5b x0)),false,[wL 1 yy y5b x0])
 | _=>none
theorem yay:OkD Tryz.prog 142 D_zuc:=by unfold D_zuc;exact dk N142.den
def zyf (a0:Int):Int:=
 (bif (a0 == 87)then 1 else(bif (a0 == 82)then 2 else(bif (a0 == 71)then 3 else(bif (a0 == 89)then 4 else 0))))
namespace N275
theorem DD:DOk Tryz.prog (Go.Ab.DD []):=yc _
theorem den (a0:Int)  : Den Tryz.prog 275 [.int .u8 a0] (.int .i64 (zyf a0)):=by
 generalize hR:zyf a0=r;unfold zyf at hR;refine di Tryz.func275 Tryz.ntmps275 Tryz.results275 ?_;intro c hL hc hk;clear hL;simp only[pars,Nat.zero_add];iterate 3 refine rS ?_
 refine yb ?_ ?_<;>intro hb
 ·replace hR:=ct hR
  exact retR
 ·replace hR:=cf hR
  refine rS ?_;refine yb ?_ ?_<;>intro hb
  ·replace hR:=ct hR
   exact retR
  ·replace hR:=cf hR
   refine rS ?_;refine yb ?_ ?_<;>intro hb
   ·replace hR:=ct hR
    exact retR
   ·replace hR:=cf hR
    refine rS ?_;refine yb ?_ ?_<;>intro hb
    ·replace hR:=ct hR
     exact retR
    ·replace hR:=cf hR
     exact retR
end N275
def D_zyf : DF
 | [x0]=>some (.int .i64 (zyf (rdI x0)),false,[wI .u8 x0])
 | _=>none
theorem yn4:OkD Tryz.prog 275 D_zyf:=by unfold D_zyf;exact dk N275.den
def y0f (a0:(List UInt8)) (i1:Nat) (s1:Unit):Except (Bool) (Unit):=
 (bif (((zyf ((a0.getD i1 0).toNat:Int)) == 0) || (decide (0<(i1:Int)) && decide ((zyf ((a0.getD i1 0).toNat:Int))<=(zyf ((a0.getD ((IntKind.wrap .i64 ((i1:Int)-1)).toNat) 0).toNat:Int)))))then .error false else .ok ())
def zmb (a0:(List UInt8)):Bool:=
 (match ye (y0f a0) (a0.length-0) 0 ()with|.error e=>e|.ok s1=>(decide (1<=(a0.length:Int)) && decide ((a0.length:Int)<=3)))
namespace N268
theorem DD:DOk Tryz.prog (Go.Ab.DD [(275,dP D_zyf)]):=ya yn4.e <| yc _
abbrev dn:=@D_zyf.eq_1
theorem den (a0:(List UInt8))  : Den Tryz.prog 268 [.str a0] (.bool (zmb a0)):=by
 generalize hR:zmb a0=r;unfold zmb at hR;refine di Tryz.func268 Tryz.ntmps268 Tryz.results268 ?_;intro c hL hc hk;obtain⟨hL0,_⟩:=hL;have hw0:=lwS hL0;clear hL0;simp only[pars,Nat.zero_add];iterate 2 refine rS ?_
 refine AWP.block ?_;generalize hz1:ye (y0f a0) (a0.length-0) 0 ()=z1 at hR;refine AWP.range (y0f a0) (fun i1 s1=>⟨[(0,.str a0),(3,.int .i64 (i1:Int))],[]⟩) (fun i1 s1=>True) (a0.length) 0 () [] hz1 ot wt sm ?_;clear hz1;intro i1 s1 hi1 hW1 hz1;refine rS ?_;refine yb ?_ ?_<;>intro hb
 ·have hlt1:i1<a0.length:=ot
  rw[yi hlt1]at hz1;simp only[y0f]at hz1;refine rD 21 ?_;refine yb ?_ ?_<;>intro hb
  ·simp only[hb,cond_true]at hz1
   refine rS ?_;refine AWP.ret ?_;subst hz1;dsimp only at hR;subst hR;exact es
  ·simp only[hb,cond_false]at hz1
   refine rS ?_;exact⟨_,[],hlt1,wt,hz1,sm⟩
 ·obtain rfl:i1=a0.length:=ot
  exact retX
end N268
def D_zmb : DF
 | [x0]=>some (.bool (zmb (rdS x0)),false,[wS x0])
 | _=>none
theorem yf8:OkD Tryz.prog 268 D_zmb:=by unfold D_zmb;exact dk N268.den
def zbh (a0:Int):Bool:=
 (zj a0 1 8)
namespace N267
theorem DD:DOk Tryz.prog (Go.Ab.DD [(75,dP D_zj)]):=ya yyf.e <| yc _
abbrev dn:=@D_zj.eq_1
abbrev ol:=@zj.eq_1
theorem den (a0:Int)  : Den Tryz.prog 267 [.int .i64 a0] (.bool (zbh a0)):=by
 generalize hR:zbh a0=r;unfold zbh at hR;refine di Tryz.func267 Tryz.ntmps267 Tryz.results267 ?_;intro c hL hc hk;clear hL;simp only[pars,Nat.zero_add];refine rS ?_;exact retR
end N267
def D_zbh : DF
 | [x0]=>some (.bool (zbh (rdI x0)),false,[wI .i64 x0])
 | _=>none
theorem y56:OkD Tryz.prog 267 D_zbh:=by unfold D_zbh;exact dk N267.den
def zje (a0:Character):Bool:=
 (bif ((!(zbh a0.Kind)) || (!(zmb a0.Colors)))then false else(bif (a0.Kind == 1)then(((a0.Group.length:Int) == 0) && (a0.Letter == []))else(bif (a0.Kind == 3)then(((a0.Group.length:Int) == 0) && (a0.Letter == []))else(bif (a0.Kind == 6)then(bif (a0.Letter == [76])then(((a0.Group.length:Int) == 1) && ((a0.Group.getD 0 default) == 6))else(((a0.Letter == []) && decide ((a0.Group.length:Int)<=1)) && (zuc a0.Group)))else(bif (a0.Kind == 7)then(bif (a0.Letter == [76])then(((a0.Group.length:Int) == 1) && ((a0.Group.getD 0 default) == 6))else(((a0.Letter == []) && decide ((a0.Group.length:Int)<=1)) && (zuc a0.Group)))else(bif (a0.Kind == 8)then(((((a0.Group.length:Int) == 0) && ((a0.Letter.length:Int) == 1)) && decide (65<=((a0.Letter.getD 0 0).toNat:Int))) && decide (((a0.Letter.getD 0 0).toNat:Int)<=90))else((a0.Letter == []) && (zuc a0.Group))))))))
namespace N242
theorem DD:DOk Tryz.prog (Go.Ab.DD [(142,dP D_zuc),(267,dP D_zbh),(268,dP D_zmb)]):=ya yay.e <| ya y56.e <| ya yf8.e <| yc _
abbrev dn:=cj @D_zuc.eq_1 <| cj @D_zbh.eq_1 <| @D_zmb.eq_1
theorem den (a0:Character)  : Den Tryz.prog 242 [.ep (yh a0)] (.bool (zje a0)):=by
 generalize hR:zje a0=r;unfold zje at hR;refine di Tryz.func242 Tryz.ntmps242 Tryz.results242 ?_;intro c hL hc hk;obtain⟨hL0,_⟩:=hL;have hw0:bwCharacter a0:=yp a0 hL0;clear hL0;simp only[pars,Nat.zero_add];iterate 2 refine rS ?_
 refine yb ?_ ?_<;>intro hb
 ·replace hR:=ct hR
  exact retR
 ·replace hR:=cf hR
  iterate 2 refine rS ?_
  refine yb ?_ ?_<;>intro hb
  ·replace hR:=ct hR
   refine AWP.skip ?_;refine yb ?_ ?_<;>intro hb
   ·exact retR
   ·exfalso;simp_all
  ·replace hR:=cf hR
   refine rS ?_;refine yb ?_ ?_<;>intro hb
   ·replace hR:=ct hR
    exact retR
   ·replace hR:=cf hR
    refine rS ?_;refine yb ?_ ?_<;>intro hb
    ·replace hR:=ct hR
     refine AWP.skip ?_;refine yb ?_ ?_<;>intro hb
     ·refine rS ?_
      refine yb ?_ ?_<;>intro hb
      ·replace hR:=ct hR
       exact retR
      ·replace hR:=cf hR
       exact retR
     ·exfalso;simp_all
    ·replace hR:=cf hR
     refine rS ?_;refine yb ?_ ?_<;>intro hb
     ·replace hR:=ct hR
      refine rS ?_;refine yb ?_ ?_<;>intro hb
      ·replace hR:=ct hR
       exact retR
      ·replace hR:=cf hR
       exact retR
     ·replace hR:=cf hR
      refine rS ?_;refine yb ?_ ?_<;>intro hb
      ·replace hR:=ct hR
       exact retR
      ·replace hR:=cf hR
       exact retR
end N242
def D_zje : DF
 | [x0]=>some (.bool (zje (rdP yd x0)),false,[wP yh yd x0])
 | _=>none
theorem ya9:OkD Tryz.prog 242 D_zje:=by unfold D_zje;exact dk N242.den
def yap (a0:Int) (i1:Nat) (s1:List Int):Except ((List Int)) (List Int):=
 (bif ((((([[46,45],[45,46,46,46],[45,46,45,46],[45,46,46],[46],[46,46,45,46],[45,45,46],[46,46,46,46],[46,46],[46,45,45,45],[45,46,45],[46,45,46,46],[45,45],[45,46],[45,45,45],[46,45,45,46],[45,45,46,45],[46,45,46],[46,46,46],[45],[46,46,45],[46,46,46,45],[46,45,45],[45,46,46,45],[45,46,45,45],[45,45,46,46]]:List (List UInt8)).getD ((IntKind.wrap .u8 (a0-65)).toNat) default).getD i1 0).toNat:Int) == 46)then .ok (s1++([5]:List Int))else .ok (s1++([15]:List Int)))
def zcc (a0:Int):(List Int):=
 (match ye (yap a0) (((([[46,45],[45,46,46,46],[45,46,45,46],[45,46,46],[46],[46,46,45,46],[45,45,46],[46,46,46,46],[46,46],[46,45,45,45],[45,46,45],[46,45,46,46],[45,45],[45,46],[45,45,45],[46,45,45,46],[45,45,46,45],[46,45,46],[46,46,46],[45],[46,46,45],[46,46,46,45],[46,45,45],[45,46,46,45],[45,46,45,45],[45,45,46,46]]:List (List UInt8)).getD ((IntKind.wrap .u8 (a0-65)).toNat) default).length)-0) 0 ([]:List Int)with|.error e=>e|.ok s1=>s1)
namespace N247
theorem DD:DOk Tryz.prog (Go.Ab.DD []):=yc _
theorem lx {p:Prop} (h:p:=by(exact lxx);first|done|fail):p:=h
theorem den (a0:Int) (hp0:65<=a0) (hp1:a0<=90):Den Tryz.prog 247 [.int .u8 a0] (ownL 2 1 yy (zcc a0)):=by
 generalize hR:zcc a0=r;unfold zcc at hR;refine di Tryz.func247 Tryz.ntmps247 Tryz.results247 ?_;intro c hL hc hk;clear hL;simp only[pars,Nat.zero_add];have hs9:=y15 (IntKind.wrap .u8 (a0-65)).toNat;have hw9:IntKind.wrap .u8 (a0-65)=a0-65:=y7l _ (by omega) (by omega);iterate 5 refine rS ?_
 refine AWP.block ?_;generalize hz1:ye (yap a0) (((([[46,45],[45,46,46,46],[45,46,45,46],[45,46,46],[46],[46,46,45,46],[45,45,46],[46,46,46,46],[46,46],[46,45,45,45],[45,46,45],[46,45,46,46],[45,45],[45,46],[45,45,45],[46,45,45,46],[45,45,46,45],[46,45,46],[46,46,46],[45],[46,46,45],[46,46,46,45],[46,45,45],[45,46,46,45],[45,46,45,45],[45,45,46,46]]:List (List UInt8)).getD ((IntKind.wrap .u8 (a0-65)).toNat) default).length)-0) 0 ([]:List Int)=z1 at hR;refine AWP.range (yap a0) (fun i1 s1=>⟨[(4,.str (([[46,45],[45,46,46,46],[45,46,45,46],[45,46,46],[46],[46,46,45,46],[45,45,46],[46,46,46,46],[46,46],[46,45,45,45],[45,46,45],[46,45,46,46],[45,45],[45,46],[45,45,45],[46,45,45,46],[45,45,46,45],[46,45,46],[46,46,46],[45],[46,46,45],[46,46,46,45],[46,45,45],[45,46,46,45],[45,46,45,45],[45,45,46,46]]:List (List UInt8)).getD ((IntKind.wrap .u8 (a0-65)).toNat) default)),(5,.ref 0 1 0 s1.length),(6,.int .i64 (i1:Int))],[.arr 2 1 s1.length (fun j=>yy (s1.getD j default))]⟩) (fun i1 s1=>s1.length<=([]:List Int).length+1 * i1/\s1.length<=i1) (((([[46,45],[45,46,46,46],[45,46,45,46],[45,46,46],[46],[46,46,45,46],[45,45,46],[46,46,46,46],[46,46],[46,45,45,45],[45,46,45],[46,45,46,46],[45,45],[45,46],[45,45,45],[46,45,45,46],[45,45,46,45],[46,45,46],[46,46,46],[45],[46,46,45],[46,46,46,45],[46,45,45],[45,46,46,45],[45,46,45,45],[45,45,46,46]]:List (List UInt8)).getD ((IntKind.wrap .u8 (a0-65)).toNat) default).length)) 0 ([]:List Int) [1] hz1 ot wt sm ?_;clear hz1;intro i1 s1 hi1 hW1 hz1;refine rS ?_;refine yb ?_ ?_<;>intro hb
 ·have hlt1:i1<((([[46,45],[45,46,46,46],[45,46,45,46],[45,46,46],[46],[46,46,45,46],[45,45,46],[46,46,46,46],[46,46],[46,45,45,45],[45,46,45],[46,45,46,46],[45,45],[45,46],[45,45,45],[46,45,45,46],[45,45,46,45],[46,45,46],[46,46,46],[45],[46,46,45],[46,46,46,45],[46,45,45],[45,46,46,45],[45,46,45,45],[45,45,46,46]]:List (List UInt8)).getD ((IntKind.wrap .u8 (a0-65)).toNat) default).length):=ot
  rw[yi hlt1]at hz1;simp only[yap]at hz1;refine rS ?_;refine yb ?_ ?_<;>intro hb
  ·simp only[hb,cond_true]at hz1
   iterate 2 refine rS ?_
   exact⟨_,[2],hlt1,wt,hz1,sm⟩
  ·simp only[hb,cond_false]at hz1
   iterate 2 refine rS ?_
   exact⟨_,[2],hlt1,wt,hz1,sm⟩
 ·obtain rfl:i1=((([[46,45],[45,46,46,46],[45,46,45,46],[45,46,46],[46],[46,46,45,46],[45,45,46],[46,46,46,46],[46,46],[46,45,45,45],[45,46,45],[46,45,46,46],[45,45],[45,46],[45,45,45],[46,45,45,46],[45,45,46,45],[46,45,46],[46,46,46],[45],[46,46,45],[46,46,46,45],[46,45,45],[45,46,46,45],[45,46,45,45],[45,45,46,46]]:List (List UInt8)).getD ((IntKind.wrap .u8 (a0-65)).toNat) default).length):=ot
  exact retX
end N247
def D_zcc : DF
 | [x0]=>some (ownL 2 1 yy (zcc (rdI x0)),false,[wI .u8 x0,65<=(rdI x0),(rdI x0)<=90])
 | _=>none
theorem ym9:OkD Tryz.prog 247 D_zcc:=by unfold D_zcc;exact dk N247.den
theorem yrh (a:Int):zcc a=(y0d.getD (IntKind.wrap .u8 (a-65)).toNat default).map (fun c=>if c=46 then(5:Int)else 15):=by
 have h:=y9c (yap a) (fun j=>[if((y0d.getD (IntKind.wrap .u8 (a-65)).toNat default).getD j 0)=46 then(5:Int)else 15]) (y0d.getD (IntKind.wrap .u8 (a-65)).toNat default).length 0 [] (fun j s _ _=>by
  show(bif ((((y0d.getD (IntKind.wrap .u8 (a-65)).toNat default).getD j 0).toNat:Int) == 46)then(.ok (s++[5]):Except (List Int) (List Int))else .ok (s++[15]))=_;generalize (y0d.getD (IntKind.wrap .u8 (a-65)).toNat default).getD j 0=c;by_cases hc:c=46
  ·subst hc;rfl
  ·have:((c.toNat:Int) == 46)=false:=by
    rw[beq_eq_false_iff_ne];intro h;exact hc (UInt8.toNat_inj.1 (by show c.toNat=46;omega))
   rw[this,if_neg hc];rfl)
 have e:zcc a=(match ye (yap a) (y0d.getD (IntKind.wrap .u8 (a-65)).toNat default).length 0 ([]:List Int)with|.error e=>e|.ok s1=>s1):=rfl;rw[e,h];simp only[List.nil_append];exact ydi _ 0 (fun c=>if c=46 then(5:Int)else 15)
theorem you (a:Int):(zcc a).length<=4:=by
 rw[yrh,List.length_map];exact ydm _
def zhd (a0:Character):Bool:=
 ((a0.Kind == 1) || (((a0.Kind == 6) || (a0.Kind == 7)) && ((a0.Group.length:Int) == 0)))
namespace N144
theorem DD:DOk Tryz.prog (Go.Ab.DD []):=yc _
theorem den (a0:Character)  : Den Tryz.prog 144 [.ep (yh a0)] (.bool (zhd a0)):=by
 generalize hR:zhd a0=r;unfold zhd at hR;refine di Tryz.func144 Tryz.ntmps144 Tryz.results144 ?_;intro c hL hc hk;obtain⟨hL0,_⟩:=hL;have hw0:bwCharacter a0:=yp a0 hL0;clear hL0;simp only[pars,Nat.zero_add];refine rS ?_;exact retR
end N144
def D_zhd : DF
 | [x0]=>some (.bool (zhd (rdP yd x0)),false,[wP yh yd x0])
 | _=>none
theorem yxp:OkD Tryz.prog 144 D_zhd:=by unfold D_zhd;exact dk N144.den
def yju (a0:(List Int)) (i1:Nat) (s1:Int):Except (Int) (Int):=
 .ok (IntKind.wrap .i64 (s1+(a0.getD i1 default)))
def zue (a0:(List Int)):Int:=
 (match ye (yju a0) (a0.length-0) 0 0 with|.error e=>e|.ok s1=>s1)
namespace N197
theorem DD:DOk Tryz.prog (Go.Ab.DD []):=yc _
theorem den (a0:(List Int))  : Den Tryz.prog 197 [encL 1 yy a0] (.int .i64 (zue a0)):=by
 generalize hR:zue a0=r;unfold zue at hR;refine di Tryz.func197 Tryz.ntmps197 Tryz.results197 ?_;intro c hL hc hk;obtain⟨hL0,_⟩:=hL;have hw0:=lwA hL0;clear hL0;simp only[pars,Nat.zero_add];iterate 3 refine rS ?_
 refine AWP.block ?_;generalize hz1:ye (yju a0) (a0.length-0) 0 0=z1 at hR;refine AWP.range (yju a0) (fun i1 s1=>⟨[(0,encL 1 yy a0),(3,.int .i64 s1),(4,.int .i64 (i1:Int))],[]⟩) (fun i1 s1=>True) (a0.length) 0 0 [] hz1 ot wt sm ?_;clear hz1;intro i1 s1 hi1 hW1 hz1;refine rS ?_;refine yb ?_ ?_<;>intro hb
 ·have hlt1:i1<a0.length:=ot
  rw[yi hlt1]at hz1;simp only[yju]at hz1;iterate 2 refine rS ?_
  exact⟨_,[],hlt1,wt,hz1,sm⟩
 ·obtain rfl:i1=a0.length:=ot
  exact retX
end N197
def D_zue : DF
 | [x0]=>some (.int .i64 (zue (rdL y5b x0)),false,[wL 1 yy y5b x0])
 | _=>none
theorem yg6:OkD Tryz.prog 197 D_zue:=by unfold D_zue;exact dk N197.den
def zxc (a0:Int):Int:=
 (bif (a0 == 2)then 10 else(bif (a0 == 4)then 15 else(bif (a0 == 5)then 20 else(bif (a0 == 7)then 3 else 5))))
namespace N248
theorem DD:DOk Tryz.prog (Go.Ab.DD []):=yc _
theorem den (a0:Int)  : Den Tryz.prog 248 [.int .i64 a0] (.int .i64 (zxc a0)):=by
 generalize hR:zxc a0=r;unfold zxc at hR;refine di Tryz.func248 Tryz.ntmps248 Tryz.results248 ?_;intro c hL hc hk;clear hL;simp only[pars,Nat.zero_add];iterate 3 refine rS ?_
 refine yb ?_ ?_<;>intro hb
 ·replace hR:=ct hR
  exact retR
 ·replace hR:=cf hR
  refine rS ?_;refine yb ?_ ?_<;>intro hb
  ·replace hR:=ct hR
   exact retR
  ·replace hR:=cf hR
   refine rS ?_;refine yb ?_ ?_<;>intro hb
   ·replace hR:=ct hR
    exact retR
   ·replace hR:=cf hR
    refine rS ?_;refine yb ?_ ?_<;>intro hb
    ·replace hR:=ct hR
     exact retR
    ·replace hR:=cf hR
     exact retR
end N248
def D_zxc : DF
 | [x0]=>some (.int .i64 (zxc (rdI x0)),false,[wI .i64 x0])
 | _=>none
theorem ywy:OkD Tryz.prog 248 D_zxc:=by unfold D_zxc;exact dk N248.den
def zif (a0:Int):Int:=
 (bif (a0 == 2)then 10 else(bif (a0 == 5)then 20 else(bif (a0 == 7)then 2 else 5)))
namespace N249
theorem DD:DOk Tryz.prog (Go.Ab.DD []):=yc _
theorem den (a0:Int)  : Den Tryz.prog 249 [.int .i64 a0] (.int .i64 (zif a0)):=by
 generalize hR:zif a0=r;unfold zif at hR;refine di Tryz.func249 Tryz.ntmps249 Tryz.results249 ?_;intro c hL hc hk;clear hL;simp only[pars,Nat.zero_add];iterate 3 refine rS ?_
 refine yb ?_ ?_<;>intro hb
 ·replace hR:=ct hR
  exact retR
 ·replace hR:=cf hR
  refine rS ?_;refine yb ?_ ?_<;>intro hb
  ·replace hR:=ct hR
   exact retR
  ·replace hR:=cf hR
   refine rS ?_;refine yb ?_ ?_<;>intro hb
   ·replace hR:=ct hR
    exact retR
   ·replace hR:=cf hR
    exact retR
end N249
def D_zif : DF
 | [x0]=>some (.int .i64 (zif (rdI x0)),false,[wI .i64 x0])
 | _=>none
theorem yq8:OkD Tryz.prog 249 D_zif:=by unfold D_zif;exact dk N249.den
def ztg (a0:Character):Int:=
 (bif (a0.Kind == 6)then 20 else(bif (a0.Kind == 7)then 10 else(bif (a0.Kind == 8)then 30 else(bif decide (1<(a0.Group.length:Int))then IntKind.wrap .i64 ((IntKind.wrap .i64 ((zxc a0.Kind)+5))+20)else IntKind.wrap .i64 ((zxc a0.Kind)+5)))))
namespace N199
theorem DD:DOk Tryz.prog (Go.Ab.DD [(248,dP D_zxc)]):=ya ywy.e <| yc _
abbrev dn:=@D_zxc.eq_1
theorem den (a0:Character)  : Den Tryz.prog 199 [.ep (yh a0)] (.int .i64 (ztg a0)):=by
 generalize hR:ztg a0=r;unfold ztg at hR;refine di Tryz.func199 Tryz.ntmps199 Tryz.results199 ?_;intro c hL hc hk;obtain⟨hL0,_⟩:=hL;have hw0:bwCharacter a0:=yp a0 hL0;clear hL0;simp only[pars,Nat.zero_add];iterate 3 refine rS ?_
 refine yb ?_ ?_<;>intro hb
 ·replace hR:=ct hR
  exact retR
 ·replace hR:=cf hR
  refine rS ?_;refine yb ?_ ?_<;>intro hb
  ·replace hR:=ct hR
   exact retR
  ·replace hR:=cf hR
   refine rS ?_;refine yb ?_ ?_<;>intro hb
   ·replace hR:=ct hR
    exact retR
   ·replace hR:=cf hR
    iterate 2 refine rS ?_
    refine yb ?_ ?_<;>intro hb
    ·replace hR:=ct hR
     refine rS ?_;exact retR
    ·replace hR:=cf hR
     exact retR
end N199
def D_ztg : DF
 | [x0]=>some (.int .i64 (ztg (rdP yd x0)),false,[wP yh yd x0])
 | _=>none
theorem yc6:OkD Tryz.prog 199 D_ztg:=by unfold D_ztg;exact dk N199.den
def zug (a0:Sector):Bool:=
 ((zj a0.From 0 359) && (zj a0.To 0 359))
namespace N269
theorem DD:DOk Tryz.prog (Go.Ab.DD [(75,dP D_zj)]):=ya yyf.e <| yc _
abbrev dn:=@D_zj.eq_1
abbrev ol:=@zj.eq_1
theorem den (a0:Sector)  : Den Tryz.prog 269 [.ep (yl a0)] (.bool (zug a0)):=by
 generalize hR:zug a0=r;unfold zug at hR;refine di Tryz.func269 Tryz.ntmps269 Tryz.results269 ?_;intro c hL hc hk;obtain⟨hL0,_⟩:=hL;have hw0:bwSector a0:=y4 a0 hL0;clear hL0;simp only[pars,Nat.zero_add];refine rS ?_;exact retR
end N269
def D_zug : DF
 | [x0]=>some (.bool (zug (rdP yu x0)),false,[wP yl yu x0])
 | _=>none
theorem yh5:OkD Tryz.prog 269 D_zug:=by unfold D_zug;exact dk N269.den
def zjf (a0:(List UInt8)):Bool:=
 ((((a0 == [87]) || (a0 == [82])) || (a0 == [71])) || (a0 == [89]))
namespace N270
theorem DD:DOk Tryz.prog (Go.Ab.DD []):=yc _
theorem den (a0:(List UInt8))  : Den Tryz.prog 270 [.str a0] (.bool (zjf a0)):=by
 generalize hR:zjf a0=r;unfold zjf at hR;refine di Tryz.func270 Tryz.ntmps270 Tryz.results270 ?_;intro c hL hc hk;obtain⟨hL0,_⟩:=hL;have hw0:=lwS hL0;clear hL0;simp only[pars,Nat.zero_add];refine rS ?_;exact retR
end N270
def D_zjf : DF
 | [x0]=>some (.bool (zjf (rdS x0)),false,[wS x0])
 | _=>none
theorem ya7:OkD Tryz.prog 270 D_zjf:=by unfold D_zjf;exact dk N270.den
def zkc (a0:Sector):Bool:=
 ((zug a0) && (zjf a0.Color))
namespace N243
theorem DD:DOk Tryz.prog (Go.Ab.DD [(269,dP D_zug),(270,dP D_zjf)]):=ya yh5.e <| ya ya7.e <| yc _
abbrev dn:=cj @D_zug.eq_1 <| @D_zjf.eq_1
theorem den (a0:Sector)  : Den Tryz.prog 243 [.ep (yl a0)] (.bool (zkc a0)):=by
 generalize hR:zkc a0=r;unfold zkc at hR;refine di Tryz.func243 Tryz.ntmps243 Tryz.results243 ?_;intro c hL hc hk;obtain⟨hL0,_⟩:=hL;have hw0:bwSector a0:=y4 a0 hL0;clear hL0;simp only[pars,Nat.zero_add];refine rS ?_;exact retR
end N243
def D_zkc : DF
 | [x0]=>some (.bool (zkc (rdP yu x0)),false,[wP yl yu x0])
 | _=>none
theorem yz4:OkD Tryz.prog 243 D_zkc:=by unfold D_zkc;exact dk N243.den
def zjh (a0:Sector):Int:=
 (bif (((IntKind.wrap .i64 ((IntKind.wrap .i64 (a0.To-a0.From))+360)).tmod 360) == 0)then 360 else(IntKind.wrap .i64 ((IntKind.wrap .i64 (a0.To-a0.From))+360)).tmod 360)
namespace N244
theorem DD:DOk Tryz.prog (Go.Ab.DD []):=yc _
theorem den (a0:Sector)  : Den Tryz.prog 244 [.ep (yl a0)] (.int .i64 (zjh a0)):=by
 generalize hR:zjh a0=r;unfold zjh at hR;refine di Tryz.func244 Tryz.ntmps244 Tryz.results244 ?_;intro c hL hc hk;obtain⟨hL0,_⟩:=hL;have hw0:bwSector a0:=y4 a0 hL0;clear hL0;simp only[pars,Nat.zero_add];refine rS ?_;refine rD 11 ?_;refine rS ?_;refine yb ?_ ?_<;>intro hb
 ·replace hR:=ct hR
  exact retR
 ·replace hR:=cf hR
  exact retR
end N244
def D_zjh : DF
 | [x0]=>some (.int .i64 (zjh (rdP yu x0)),false,[wP yl yu x0])
 | _=>none
theorem y75:OkD Tryz.prog 244 D_zjh:=by unfold D_zjh;exact dk N244.den
def y6v (a0:(List Sector)) (i1:Nat) (s1:Unit):Except (Bool) (Unit):=
 (bif ((!(zkc (a0.getD i1 default))) || (decide (0<(i1:Int)) && decide (((a0.getD i1 default).From)<=((a0.getD ((IntKind.wrap .i64 ((i1:Int)-1)).toNat) default).From))))then .error false else .ok ())
def y3q (a0:(List Sector)) (s1:Unit) (s2:Int):Except (Sum (Bool) (Int)) (Int):=
 (bif (decide (s2<(a0.length:Int)) && decide (1<(a0.length:Int)))then(bif decide (((IntKind.wrap .i64 ((IntKind.wrap .i64 (((a0.getD (((IntKind.wrap .i64 (s2+1)).tmod (a0.length:Int)).toNat) default).From)-((a0.getD ((s2).toNat) default).From)))+360)).tmod 360)<(zjh (a0.getD ((s2).toNat) default)))then .error (.inl false)else .ok (IntKind.wrap .i64 (s2+1)))else .error (.inr s2))
def zv (a0:(List Sector)):Bool:=
 (bif decide (12<(a0.length:Int))then false else(match ye (y6v a0) (a0.length-0) 0 ()with|.error e=>e|.ok s1=>(match yab (y3q a0 s1) ((a0.length-((0:Int)).toNat)+1) 0 with|.error (.inl e)=>e|.error (.inr s2)=>true|.ok _=>default)))
namespace N190
theorem DD:DOk Tryz.prog (Go.Ab.DD [(243,dP D_zkc),(244,dP D_zjh)]):=ya yz4.e <| ya y75.e <| yc _
abbrev dn:=cj @D_zkc.eq_1 <| @D_zjh.eq_1
theorem o0 {p:Prop} (h:p:=by(first|(have hb2:=hb;simp only[Bool.and_eq_true,decide_eq_true_eq]at hb2;have h9:=yzeb hW2.1 hb2.1 (by omega);and_intros<;>first|omega|exact h9.1|exact h9.2));first|done|fail):p:=h
theorem den (a0:(List Sector))  : Den Tryz.prog 190 [encL 3 yl a0] (.bool (zv a0)):=by
 generalize hR:zv a0=r;unfold zv at hR;refine di Tryz.func190 Tryz.ntmps190 Tryz.results190 ?_;intro c hL hc hk;obtain⟨hL0,_⟩:=hL;have hw0:=lwA hL0;have hw1:∀ v∈a0,bwSector v:=fun v hv=>y4 v ((yj hL0).2 v hv)
 clear hL0;simp only[pars,Nat.zero_add];iterate 3 refine rS ?_
 refine yb ?_ ?_<;>intro hb
 ·replace hR:=ct hR
  exact retR
 ·replace hR:=cf hR
  refine rS ?_;refine AWP.block ?_;generalize hz1:ye (y6v a0) (a0.length-0) 0 ()=z1 at hR;refine AWP.range (y6v a0) (fun i1 s1=>⟨[(0,encL 3 yl a0),(3,.int .i64 (a0.length:Int)),(4,.int .i64 (i1:Int))],[]⟩) (fun i1 s1=>True) (a0.length) 0 () [] hz1 ot wt sm ?_;clear hz1;intro i1 s1 hi1 hW1 hz1;refine rS ?_;refine yb ?_ ?_<;>intro hb
  ·have hlt1:i1<a0.length:=ot
   rw[yi hlt1]at hz1;simp only[y6v]at hz1;refine rD 23 ?_;refine yb ?_ ?_<;>intro hb
   ·simp only[hb,cond_true]at hz1
    refine rS ?_;refine AWP.ret ?_;subst hz1;dsimp only at hR;subst hR;exact es
   ·simp only[hb,cond_false]at hz1
    refine rS ?_;exact⟨_,[],hlt1,wt,hz1,sm⟩
  ·obtain rfl:i1=a0.length:=ot
   rw[ybb (Nat.le_refl _)]at hz1;subst hz1;dsimp only at hR;refine AWP.exit ?_;refine yf ?_;refine rS ?_;refine AWP.block ?_;generalize hz2:yab (y3q a0 s1) ((a0.length-((0:Int)).toNat)+1) 0=z2 at hR;refine AWP.whileW (y3q a0 s1) (fun s2=>⟨[(0,encL 3 yl a0),(3,.int .i64 (a0.length:Int)),(5,.int .i64 s2)],[]⟩) (fun s2=>0<=s2/\s2<=a0.length) (fun s2=>a0.length-(s2).toNat) ((a0.length-((0:Int)).toNat)+1) 0 [] hz2 m0 wt sm ?_;clear hz2;intro s2 k2 hW2 hm2 hz2;simp only[y3q]at hz2;refine rS ?_;refine yb ?_ ?_<;>intro hb
   ·simp only[hb,cond_true]at hz2
    refine rD 21 ?_;refine yb ?_ ?_<;>intro hb
    ·simp only[hb,cond_true]at hz2
     refine rS ?_;refine AWP.ret ?_;subst hz2;dsimp only at hR;subst hR;exact es
    ·simp only[hb,cond_false]at hz2
     refine rS ?_;exact⟨_,[],ms,wt,hz2,sm⟩
   ·simp only[hb,cond_false]at hz2
    refine AWP.exit ?_;refine yf ?_;subst hz2;dsimp only at hR;exact retR
end N190
def D_zv : DF
 | [x0]=>some (.bool (zv (rdL yu x0)),false,[wL 3 yl yu x0])
 | _=>none
theorem yjcb:OkD Tryz.prog 190 D_zv:=by unfold D_zv;exact dk N190.den
def yzt (a0:(List Sector)) (i1:Nat) (s1:List UInt8) (i2:Nat) (s2:List UInt8):Except (Sum ((List UInt8)) (List UInt8)) (List UInt8):=
 (bif (((a0.getD i2 default).Color) == ([[87],[82],[71],[89]].getD i1 default))then .error (.inr (s2++([[87],[82],[71],[89]].getD i1 default)))else .ok s2)
def yno (a0:(List Sector)) (i1:Nat) (s1:List UInt8):Except ((List UInt8)) (List UInt8):=
 (match ye (yzt a0 i1 s1) (a0.length-0) 0 s1 with|.error (.inl e)=>.error e|.error (.inr s2)=>.ok s2|.ok s2=>.ok s2)
def zib (a0:(List Sector)):(List UInt8):=
 (match ye (yno a0) (4-0) 0 []with|.error e=>e|.ok s1=>s1)
namespace N89
theorem DD:DOk Tryz.prog (Go.Ab.DD []):=yc _
theorem o0 {p:Prop} (h:p:=by(first|(have h4:=hq4 i1;have h1:=hW1;have h2:=hW2;and_intros<;>omega));first|done|fail):p:=h
theorem lx {p:Prop} (h:p:=by(exact lxx);first|done|fail):p:=h
theorem den (a0:(List Sector)) (hb0:a0.length<1099511627776) (hb1:∀ v∈a0,bdSector v):Den Tryz.prog 89 [encL 3 yl a0] (.str (zib a0)):=by
 generalize hR:zib a0=r;unfold zib at hR;refine di Tryz.func89 Tryz.ntmps89 Tryz.results89 ?_;intro c hL hc hk;obtain⟨hL0,_⟩:=hL;have hw0:=lwA hL0;have hw1:∀ v∈a0,bwSector v:=fun v hv=>y4 v ((yj hL0).2 v hv)
 clear hL0;simp only[pars,Nat.zero_add];have hq4:∀ i:Nat,(([[87],[82],[71],[89]]:List (List UInt8)).getD i default).length<=1:=fun i=>by rcases i with _|_|_|_|i<;>first|exact Nat.le_refl _|exact Nat.zero_le _
 iterate 4 refine rS ?_
 refine AWP.block ?_;generalize hz1:ye (yno a0) (4-0) 0 []=z1 at hR;refine AWP.range (yno a0) (fun i1 s1=>⟨[(0,encL 3 yl a0),(3,.str s1),(4,.ref 0 1 0 4),(5,.int .i64 (i1:Int))],[.arr 9 1 [[87],[82],[71],[89]].length (fun j=>eS ([[87],[82],[71],[89]].getD j default))]⟩) (fun i1 s1=>s1.length<=i1) (4) 0 [] [0] hz1 ot (by(simp)) sm ?_;clear hz1;intro i1 s1 hi1 hW1 hz1;refine rS ?_;refine yb ?_ ?_<;>intro hb
 ·have hlt1:i1<4:=ot
  rw[yi hlt1]at hz1;simp only[yno]at hz1;refine rS ?_;refine AWP.block ?_;generalize hz2:ye (yzt a0 i1 s1) (a0.length-0) 0 s1=z2 at hz1;refine AWP.range (yzt a0 i1 s1) (fun i2 s2=>⟨[(0,encL 3 yl a0),(3,.str s2),(4,.ref 0 1 0 4),(5,.int .i64 (i1:Int)),(6,.int .i64 (i2:Int))],[.arr 9 1 [[87],[82],[71],[89]].length (fun j=>eS ([[87],[82],[71],[89]].getD j default))]⟩) (fun i2 s2=>s2.length<=i1) (a0.length) 0 s1 [0] hz2 ot (by(exact hW1)) sm ?_;clear hz2;intro i2 s2 hi2 hW2 hz2;refine rS ?_;refine yb ?_ ?_<;>intro hb
  ·have hlt2:i2<a0.length:=ot
   rw[yi hlt2]at hz2;simp only[yzt]at hz2;refine rD 9 ?_;refine yb ?_ ?_<;>intro hb
   ·simp only[hb,cond_true]at hz2
    refine rS ?_;refine AWP.exit ?_;refine ybk rfl ?_;refine yf ?_;subst hz2;dsimp only at hz1;refine rS ?_;exact⟨_,[0],hlt1,by(have h4:=hq4 i1;simp only[ln]at *;omega),hz1,sm⟩
   ·simp only[hb,cond_false]at hz2
    refine rS ?_;exact⟨_,[0],hlt2,by(first|exact hW2|assumption),hz2,sm⟩
  ·obtain rfl:i2=a0.length:=ot
   rw[ybb (Nat.le_refl _)]at hz2;subst hz2;dsimp only at hz1;refine AWP.exit ?_;refine yf ?_;refine rS ?_;exact⟨_,[0],hlt1,by(have h4:=hq4 i1;simp only[ln]at *;omega),hz1,sm⟩
 ·obtain rfl:i1=4:=ot
  exact retX
end N89
def D_zib : DF
 | [x0]=>some (.str (zib (rdL yu x0)),false,[wL 3 yl yu x0,(rdL yu x0).length<1099511627776,∀ v∈(rdL yu x0),bdSector v])
 | _=>none
theorem y8x:OkD Tryz.prog 89 D_zib:=by unfold D_zib;exact dk N89.den
def zlc (a0:Int):Bool:=
 (zj a0 1 9)
namespace N137
theorem DD:DOk Tryz.prog (Go.Ab.DD [(75,dP D_zj)]):=ya yyf.e <| yc _
abbrev dn:=@D_zj.eq_1
abbrev ol:=@zj.eq_1
theorem den (a0:Int)  : Den Tryz.prog 137 [.int .i64 a0] (.bool (zlc a0)):=by
 generalize hR:zlc a0=r;unfold zlc at hR;refine di Tryz.func137 Tryz.ntmps137 Tryz.results137 ?_;intro c hL hc hk;clear hL;simp only[pars,Nat.zero_add];refine rS ?_;exact retR
end N137
def D_zlc : DF
 | [x0]=>some (.bool (zlc (rdI x0)),false,[wI .i64 x0])
 | _=>none
theorem yhr:OkD Tryz.prog 137 D_zlc:=by unfold D_zlc;exact dk N137.den
def zbe (a0:Int):(List UInt8):=
 (([[],[82],[71],[66,89],[66,89,66],[89,66],[89,66,89],[66,82,66],[82,87],[89]]:List (List UInt8)).getD ((a0).toNat) default)
namespace N138
theorem DD:DOk Tryz.prog (Go.Ab.DD []):=yc _
theorem lx {p:Prop} (h:p:=by(exact lxx);first|done|fail):p:=h
theorem den (a0:Int) (hp0:0<=a0) (hp1:a0<=9):Den Tryz.prog 138 [.int .i64 a0] (.str (zbe a0)):=by
 generalize hR:zbe a0=r;unfold zbe at hR;refine di Tryz.func138 Tryz.ntmps138 Tryz.results138 ?_;intro c hL hc hk;clear hL;simp only[pars,Nat.zero_add];refine rS ?_;exact retR
end N138
def D_zbe : DF
 | [x0]=>some (.str (zbe (rdI x0)),false,[wI .i64 x0,0<=(rdI x0),(rdI x0)<=9])
 | _=>none
theorem y0q:OkD Tryz.prog 138 D_zbe:=by unfold D_zbe;exact dk N138.den
def zeb (a0:Int):(List (List UInt8)):=
 (bif (a0 == 1)then[[99,97,110],[112,105,108,108,97,114],[115,112,97,114]]else(bif (a0 == 2)then[[99,111,110,101],[112,105,108,108,97,114],[115,112,97,114]]else(bif (a0 == 8)then[[115,112,104,101,114,101],[112,105,108,108,97,114],[115,112,97,114]]else(bif (a0 == 9)then[[99,97,110],[99,111,110,101],[112,105,108,108,97,114],[115,112,97,114],[115,112,104,101,114,101]]else[[112,105,108,108,97,114],[115,112,97,114]]))))
namespace N139
theorem DD:DOk Tryz.prog (Go.Ab.DD []):=yc _
theorem lx {p:Prop} (h:p:=by(exact lxx);first|done|fail):p:=h
theorem den (a0:Int)  : Den Tryz.prog 139 [.int .i64 a0] (ownL 9 1 eS (zeb a0)):=by
 generalize hR:zeb a0=r;unfold zeb at hR;refine di Tryz.func139 Tryz.ntmps139 Tryz.results139 ?_;intro c hL hc hk;clear hL;simp only[pars,Nat.zero_add];iterate 3 refine rS ?_
 refine yb ?_ ?_<;>intro hb
 ·replace hR:=ct hR
  exact retR
 ·replace hR:=cf hR
  refine rS ?_;refine yb ?_ ?_<;>intro hb
  ·replace hR:=ct hR
   exact retR
  ·replace hR:=cf hR
   refine rS ?_;refine yb ?_ ?_<;>intro hb
   ·replace hR:=ct hR
    exact retR
   ·replace hR:=cf hR
    refine rS ?_;refine yb ?_ ?_<;>intro hb
    ·replace hR:=ct hR
     exact retR
    ·replace hR:=cf hR
     exact retR
end N139
def D_zeb : DF
 | [x0]=>some (ownL 9 1 eS (zeb (rdI x0)),false,[wI .i64 x0])
 | _=>none
def Dz_zeb : DF
 | [x0]=>some (ownL 9 1 eS (zeb (rdI x0)),true,[wI .i64 x0])
 | _=>none
theorem yjx:OkD Tryz.prog 139 D_zeb:=by unfold D_zeb;exact dk N139.den
theorem y42:OkD Tryz.prog 139 Dz_zeb:=by unfold Dz_zeb;exact dk N139.den
def zke (a0:Int):(List UInt8):=
 (([[],[99,97,110],[99,111,110,101],[117,112],[98,97,115,101],[100,111,119,110],[112,111,105,110,116],[98,97,108,108,115],[98,97,108,108],[99,114,111,115,115]]:List (List UInt8)).getD ((a0).toNat) default)
namespace N140
theorem DD:DOk Tryz.prog (Go.Ab.DD []):=yc _
theorem lx {p:Prop} (h:p:=by(exact lxx);first|done|fail):p:=h
theorem den (a0:Int) (hp0:0<=a0) (hp1:a0<=9):Den Tryz.prog 140 [.int .i64 a0] (.str (zke a0)):=by
 generalize hR:zke a0=r;unfold zke at hR;refine di Tryz.func140 Tryz.ntmps140 Tryz.results140 ?_;intro c hL hc hk;clear hL;simp only[pars,Nat.zero_add];refine rS ?_;exact retR
end N140
def D_zke : DF
 | [x0]=>some (.str (zke (rdI x0)),false,[wI .i64 x0,0<=(rdI x0),(rdI x0)<=9])
 | _=>none
theorem yqq:OkD Tryz.prog 140 D_zke:=by unfold D_zke;exact dk N140.den
def y1l (a0:Mark) (i1:Nat) (s1:Unit):Except (Bool) (Unit):=
 (bif (((zeb a0.Kind).getD i1 default) == a0.Shape)then .error true else .ok ())
def zub (a0:Mark):Bool:=
 (bif (a0.Kind == 0)then(a0.Kind == 0 && (a0.Colors == [] && (a0.Shape == [] && a0.Topmark == [])))else(bif (((!(zlc a0.Kind)) || (a0.Colors != (zbe a0.Kind))) || ((a0.Topmark != []) && (a0.Topmark != (zke a0.Kind))))then false else(match ye (y1l a0) (((zeb a0.Kind).length)-0) 0 ()with|.error e=>e|.ok s1=>false)))
namespace N194
theorem DD:DOk Tryz.prog (Go.Ab.DD [(137,dP D_zlc),(138,dP D_zbe),(139,dP D_zeb),(140,dP D_zke)]):=ya yhr.e <| ya y0q.e <| ya yjx.e <| ya yqq.e <| yc _
abbrev dn:=cj @D_zlc.eq_1 <| cj @D_zbe.eq_1 <| cj @D_zeb.eq_1 <| @D_zke.eq_1
theorem o0 {p:Prop} (h:p:=by(first|(simp only[zlc,zj];refine⟨fun h => ?_,fun h _ => ?_⟩<;>(simp at h;omega)));first|done|fail):p:=h
theorem den (a0:Mark)  : Den Tryz.prog 194 [.ep (yuf a0)] (.bool (zub a0)):=by
 generalize hR:zub a0=r;unfold zub at hR;refine di Tryz.func194 Tryz.ntmps194 Tryz.results194 ?_;intro c hL hc hk;obtain⟨hL0,_⟩:=hL;have hw0:bwMark a0:=y3e a0 hL0;clear hL0;simp only[pars,Nat.zero_add];have hs5:(zeb a0.Kind).length<=5:=by unfold zeb;simp only[Bool.cond_eq_ite];(repeat' split)<;>simp
 iterate 2 refine rS ?_
 refine yb ?_ ?_<;>intro hb
 ·replace hR:=ct hR
  exact retR
 ·replace hR:=cf hR
  refine rD 37 ?_;refine yb ?_ ?_<;>intro hb
  ·replace hR:=ct hR
   exact retR
  ·replace hR:=cf hR
   iterate 2 refine rS ?_
   refine AWP.block ?_;generalize hz1:ye (y1l a0) (((zeb a0.Kind).length)-0) 0 ()=z1 at hR;refine AWP.range (y1l a0) (fun i1 s1=>⟨[(0,.ep (yuf a0)),(3,.ref 0 1 0 ((zeb a0.Kind).length)),(4,.int .i64 (i1:Int))],[.arr 9 1 (zeb a0.Kind).length (fun j=>eS ((zeb a0.Kind).getD j default))]⟩) (fun i1 s1=>True) (((zeb a0.Kind).length)) 0 () [0] hz1 ot wt sm ?_;clear hz1;intro i1 s1 hi1 hW1 hz1;refine rS ?_;refine yb ?_ ?_<;>intro hb
   ·have hlt1:i1<((zeb a0.Kind).length):=ot
    rw[yi hlt1]at hz1;simp only[y1l]at hz1;refine rD 8 ?_;refine yb ?_ ?_<;>intro hb
    ·simp only[hb,cond_true]at hz1
     refine rS ?_;refine AWP.ret ?_;subst hz1;dsimp only at hR;subst hR;exact es
    ·simp only[hb,cond_false]at hz1
     refine rS ?_;exact⟨_,[0],hlt1,wt,hz1,sm⟩
   ·obtain rfl:i1=((zeb a0.Kind).length):=ot
    exact retX
end N194
def D_zub : DF
 | [x0]=>some (.bool (zub (rdP y2f x0)),false,[wP yuf y2f x0])
 | _=>none
theorem yaz:OkD Tryz.prog 194 D_zub:=by unfold D_zub;exact dk N194.den
def zid (a0:Mark):Bool:=
 (zub a0)
namespace N187
theorem DD:DOk Tryz.prog (Go.Ab.DD [(194,dP D_zub)]):=ya yaz.e <| yc _
abbrev dn:=@D_zub.eq_1
theorem den (a0:Mark)  : Den Tryz.prog 187 [.agg (yuf a0)] (.bool (zid a0)):=by
 generalize hR:zid a0=r;unfold zid at hR;refine di Tryz.func187 Tryz.ntmps187 Tryz.results187 ?_;intro c hL hc hk;obtain⟨hL0,_⟩:=hL;have hw0:bwMark a0:=y3e a0 hL0;clear hL0;simp only[pars,Nat.zero_add];refine rS ?_;exact retR
end N187
def D_zid : DF
 | [x0]=>some (.bool (zid (rdG y2f x0)),false,[wG yuf y2f x0])
 | _=>none
theorem yl8:OkD Tryz.prog 187 D_zid:=by unfold D_zid;exact dk N187.den
def zvc (a0:Point):Bool:=
 ((zj a0.X 0 200000) && (zj a0.Y 0 200000))
namespace N186
theorem DD:DOk Tryz.prog (Go.Ab.DD [(75,dP D_zj)]):=ya yyf.e <| yc _
abbrev dn:=@D_zj.eq_1
abbrev ol:=@zj.eq_1
theorem den (a0:Point)  : Den Tryz.prog 186 [.agg (y8e a0)] (.bool (zvc a0)):=by
 generalize hR:zvc a0=r;unfold zvc at hR;refine di Tryz.func186 Tryz.ntmps186 Tryz.results186 ?_;intro c hL hc hk;clear hL;simp only[pars,Nat.zero_add];refine rS ?_;exact retR
end N186
def D_zvc : DF
 | [x0]=>some (.bool (zvc (rdG ykh x0)),false,[wG y8e ykh x0])
 | _=>none
theorem yu6:OkD Tryz.prog 186 D_zvc:=by unfold D_zvc;exact dk N186.den
def zjd (a0:Character):Bool:=
 (((((a0.Kind == 0) && ((a0.Group.length:Int) == 0)) && (a0.Letter == [])) && (a0.Colors == [])) && (a0.Period == 0))
namespace N188
theorem DD:DOk Tryz.prog (Go.Ab.DD []):=yc _
theorem den (a0:Character)  : Den Tryz.prog 188 [.ep (yh a0)] (.bool (zjd a0)):=by
 generalize hR:zjd a0=r;unfold zjd at hR;refine di Tryz.func188 Tryz.ntmps188 Tryz.results188 ?_;intro c hL hc hk;obtain⟨hL0,_⟩:=hL;have hw0:bwCharacter a0:=yp a0 hL0;clear hL0;simp only[pars,Nat.zero_add];refine rS ?_;exact retR
end N188
def D_zjd : DF
 | [x0]=>some (.bool (zjd (rdP yd x0)),false,[wP yh yd x0])
 | _=>none
theorem y66:OkD Tryz.prog 188 D_zjd:=by unfold D_zjd;exact dk N188.den
def zvh (a0:(List Int)):(List Int):=
 ([]:List Int)++a0
namespace N200
theorem DD:DOk Tryz.prog (Go.Ab.DD []):=yc _
theorem den (a0:(List Int)) (hb0:a0.length<1099511627776):Den Tryz.prog 200 [encL 1 yy a0] (ownL 2 1 yy (zvh a0)):=by
 generalize hR:zvh a0=r;unfold zvh at hR;refine di Tryz.func200 Tryz.ntmps200 Tryz.results200 ?_;intro c hL hc hk;obtain⟨hL0,_⟩:=hL;have hw0:=lwA hL0;clear hL0;simp only[pars,Nat.zero_add];refine rS ?_;exact retR
end N200
def D_zvh : DF
 | [x0]=>some (ownL 2 1 yy (zvh (rdL y5b x0)),false,[wL 1 yy y5b x0,(rdL y5b x0).length<1099511627776])
 | _=>none
theorem yr6:OkD Tryz.prog 200 D_zvh:=by unfold D_zvh;exact dk N200.den
def zwh (a0:Character):Character:=
 { Kind:=a0.Kind,Group:=(zvh a0.Group),Letter:=a0.Letter,Colors:=a0.Colors,Period:=a0.Period:Character }
namespace N146
theorem DD:DOk Tryz.prog (Go.Ab.DD [(200,dP D_zvh)]):=ya yr6.e <| yc _
abbrev dn:=@D_zvh.eq_1
theorem den (a0:Character) (hb0:bdCharacter a0):Den Tryz.prog 146 [.ep (yh a0)] (.agg (y9b (zwh a0))):=by
 generalize hR:zwh a0=r;unfold zwh at hR;refine di Tryz.func146 Tryz.ntmps146 Tryz.results146 ?_;intro c hL hc hk;obtain⟨hL0,_⟩:=hL;have hw0:bwCharacter a0:=yp a0 hL0;clear hL0;simp only[pars,Nat.zero_add];iterate 3 refine rS ?_
 exact retR
end N146
def D_zwh : DF
 | [x0]=>some (.agg (y9b (zwh (rdP yd x0))),false,[wP yh yd x0,bdCharacter (rdP yd x0)])
 | _=>none
theorem y77:OkD Tryz.prog 146 D_zwh:=by unfold D_zwh;exact dk N146.den
def zve (a0:Aid):Aid:=
 { Number:=a0.Number,Name:=a0.Name,At:=a0.At,Height:=a0.Height,Mark:=a0.Mark,Light:=zwh a0.Light,Sectors:=([]:List Sector)++a0.Sectors,Intensity:=a0.Intensity:Aid }
namespace N90
theorem DD:DOk Tryz.prog (Go.Ab.DD [(146,dP D_zwh)]):=ya y77.e <| yc _
abbrev dn:=@D_zwh.eq_1
theorem den (a0:Aid) (hb0:bdAid a0):Den Tryz.prog 90 [.ep (eAid a0)] (.agg (ytb (zve a0))):=by
 generalize hR:zve a0=r;unfold zve at hR;refine di Tryz.func90 Tryz.ntmps90 Tryz.results90 ?_;intro c hL hc hk;obtain⟨hL0,_⟩:=hL;have hw0:bwAid a0:=yr a0 hL0;clear hL0;simp only[pars,Nat.zero_add];iterate 4 refine rS ?_
 exact retR
end N90
def D_zve : DF
 | [x0]=>some (.agg (ytb (zve (rdP dAid x0))),false,[wP eAid dAid x0,bdAid (rdP dAid x0)])
 | _=>none
theorem ymq:OkD Tryz.prog 90 D_zve:=by unfold D_zve;exact dk N90.den
def y6n (a0:(List Aid)) (i1:Nat) (s1:List Aid):Except ((List Aid)) (List Aid):=
 .ok (s1++[zve (a0.getD i1 default)])
def zpb (a0:(List Aid)):(List Aid):=
 (match ye (y6n a0) (a0.length-0) 0 ([]:List Aid)with|.error e=>e|.ok s1=>s1)
namespace N41
theorem DD:DOk Tryz.prog (Go.Ab.DD [(90,dP D_zve)]):=ya ymq.e <| yc _
abbrev dn:=@D_zve.eq_1
theorem den (a0:(List Aid)) (hb0:a0.length<1099511627776) (hb1:∀ v∈a0,bdAid v) (hp0:a0.length<=1073741824):Den Tryz.prog 41 [encL 16 eAid a0] (ownL 56 16 ytb (zpb a0)):=by
 generalize hR:zpb a0=r;unfold zpb at hR;refine di Tryz.func41 Tryz.ntmps41 Tryz.results41 ?_;intro c hL hc hk;obtain⟨hL0,_⟩:=hL;have hw0:=lwA hL0;have hw1:∀ v∈a0,bwAid v:=fun v hv=>yr v ((yj hL0).2 v hv)
 clear hL0;simp only[pars,Nat.zero_add];iterate 3 refine rS ?_
 refine AWP.block ?_;generalize hz1:ye (y6n a0) (a0.length-0) 0 ([]:List Aid)=z1 at hR;refine AWP.range (y6n a0) (fun i1 s1=>⟨[(0,encL 16 eAid a0),(3,.ref 0 16 0 s1.length),(4,.int .i64 (i1:Int))],[.arr 56 16 s1.length (fun j=>ytb (s1.getD j default))]⟩) (fun i1 s1=>s1.length<=([]:List Aid).length+1 * i1) (a0.length) 0 ([]:List Aid) [0] hz1 ot wt sm ?_;clear hz1;intro i1 s1 hi1 hW1 hz1;refine rS ?_;refine yb ?_ ?_<;>intro hb
 ·have hlt1:i1<a0.length:=ot
  rw[yi hlt1]at hz1;simp only[y6n]at hz1;iterate 2 refine rS ?_
  exact⟨_,[4],hlt1,wt,hz1,sm⟩
 ·obtain rfl:i1=a0.length:=ot
  exact retX
end N41
def D_zpb : DF
 | [x0]=>some (ownL 56 16 ytb (zpb (rdL dAid x0)),false,[wL 16 eAid dAid x0,(rdL dAid x0).length<1099511627776,∀ v∈(rdL dAid x0),bdAid v,(rdL dAid x0).length<=1073741824])
 | _=>none
theorem yal:OkD Tryz.prog 41 D_zpb:=by unfold D_zpb;exact dk N41.den
def ydt (a0:(List Aid)) (a1:Int) (i1:Nat) (s1:Unit):Except (Int) (Unit):=
 (bif (((a0.getD i1 default).Number) == a1)then .error (i1:Int)else .ok ())
def zkb (a0:(List Aid)) (a1:Int):Int:=
 (match ye (ydt a0 a1) (a0.length-0) 0 ()with|.error e=>e|.ok s1=>(-1))
namespace N92
theorem DD:DOk Tryz.prog (Go.Ab.DD []):=yc _
theorem den (a0:(List Aid)) (a1:Int)  : Den Tryz.prog 92 [encL 16 eAid a0,.int .i64 a1] (.int .i64 (zkb a0 a1)):=by
 generalize hR:zkb a0 a1=r;unfold zkb at hR;refine di Tryz.func92 Tryz.ntmps92 Tryz.results92 ?_;intro c hL hc hk;obtain⟨hL0,hL1,_⟩:=hL;have hw0:=lwA hL0;have hw1:∀ v∈a0,bwAid v:=fun v hv=>yr v ((yj hL0).2 v hv)
 clear hL0 hL1;simp only[pars,Nat.zero_add];iterate 2 refine rS ?_
 refine AWP.block ?_;generalize hz1:ye (ydt a0 a1) (a0.length-0) 0 ()=z1 at hR;refine AWP.range (ydt a0 a1) (fun i1 s1=>⟨[(0,encL 16 eAid a0),(1,.int .i64 a1),(5,.int .i64 (i1:Int))],[]⟩) (fun i1 s1=>True) (a0.length) 0 () [] hz1 ot wt sm ?_;clear hz1;intro i1 s1 hi1 hW1 hz1;refine rS ?_;refine yb ?_ ?_<;>intro hb
 ·have hlt1:i1<a0.length:=ot
  rw[yi hlt1]at hz1;simp only[ydt]at hz1;refine rS ?_;refine yb ?_ ?_<;>intro hb
  ·simp only[hb,cond_true]at hz1
   refine rS ?_;refine AWP.ret ?_;subst hz1;dsimp only at hR;subst hR;exact es
  ·simp only[hb,cond_false]at hz1
   refine rS ?_;exact⟨_,[],hlt1,wt,hz1,sm⟩
 ·obtain rfl:i1=a0.length:=ot
  exact retX
end N92
def D_zkb : DF
 | [x0,x1]=>some (.int .i64 (zkb (rdL dAid x0) (rdI x1)),false,[wL 16 eAid dAid x0,wI .i64 x1])
 | _=>none
theorem ynr:OkD Tryz.prog 92 D_zkb:=by unfold D_zkb;exact dk N92.den
theorem y9o (l:List Aid) (n:Int):(∃ j,j<l.length/\(l.getD j default).Number=n/\(∀ q,q<j->(l.getD q default).Number≠n)/\zkb l n=(j:Int))\/((∀ q,q<l.length->(l.getD q default).Number≠n)/\zkb l n = -1):=by
 unfold zkb;rcases ypf (b:=ydt l n) (fun j=>(l.getD j default).Number == n) (fun j=>(j:Int)) (k:=l.length-0) (i:=0) (s:=()) (fun j u _ _=>rfl)with⟨j,_,h2,h3,h4,h5⟩|⟨h1,h2⟩
 ·left
  rw[h5];exact⟨j,by omega,by simpa using h3,fun q hq=>by simpa using h4 q (Nat.zero_le _) hq,rfl⟩
 ·right
  rw[h2];exact⟨fun q hq=>by simpa using h1 q (Nat.zero_le _) (by omega),rfl⟩
theorem ydp (l:List Aid) (n:Int) : -1<=zkb l n/\zkb l n<l.length:=by
 rcases y9o l n with⟨j,h1,_,_,h2⟩|⟨_,h2⟩<;>omega
def yqw (a0:(List Sector)) (a1:(List Sector)) (i1:Nat) (s1:Unit):Except (Bool) (Unit):=
 (bif (!(((a0.getD i1 default).From) == ((a1.getD i1 default).From) && (((a0.getD i1 default).To) == ((a1.getD i1 default).To) && ((a0.getD i1 default).Color) == ((a1.getD i1 default).Color))))then .error false else .ok ())
def zjg (a0:(List Sector)) (a1:(List Sector)):Bool:=
 (bif ((a0.length:Int) != (a1.length:Int))then false else(match ye (yqw a0 a1) (a0.length-0) 0 ()with|.error e=>e|.ok s1=>true))
namespace N55
theorem DD:DOk Tryz.prog (Go.Ab.DD []):=yc _
theorem den (a0:(List Sector)) (a1:(List Sector))  : Den Tryz.prog 55 [encL 3 yl a0,encL 3 yl a1] (.bool (zjg a0 a1)):=by
 generalize hR:zjg a0 a1=r;unfold zjg at hR;refine di Tryz.func55 Tryz.ntmps55 Tryz.results55 ?_;intro c hL hc hk;obtain⟨hL0,hL1,_⟩:=hL;have hw0:=lwA hL0;have hw1:∀ v∈a0,bwSector v:=fun v hv=>y4 v ((yj hL0).2 v hv)
 have hw2:=lwA hL1;have hw3:∀ v∈a1,bwSector v:=fun v hv=>y4 v ((yj hL1).2 v hv)
 clear hL0 hL1;simp only[pars,Nat.zero_add];iterate 2 refine rS ?_
 refine yb ?_ ?_<;>intro hb
 ·replace hR:=ct hR
  exact retR
 ·replace hR:=cf hR
  refine rS ?_;refine AWP.block ?_;generalize hz1:ye (yqw a0 a1) (a0.length-0) 0 ()=z1 at hR;refine AWP.range (yqw a0 a1) (fun i1 s1=>⟨[(0,encL 3 yl a0),(1,encL 3 yl a1),(5,.int .i64 (i1:Int))],[]⟩) (fun i1 s1=>True) (a0.length) 0 () [] hz1 ot wt sm ?_;clear hz1;intro i1 s1 hi1 hW1 hz1;refine rS ?_;refine yb ?_ ?_<;>intro hb
  ·have hlt1:i1<a0.length:=ot
   rw[yi hlt1]at hz1;simp only[yqw]at hz1;refine rD 8 ?_;refine yb ?_ ?_<;>intro hb
   ·simp only[hb,cond_true]at hz1
    refine rS ?_;refine AWP.ret ?_;subst hz1;dsimp only at hR;subst hR;exact es
   ·simp only[hb,cond_false]at hz1
    refine rS ?_;exact⟨_,[],hlt1,wt,hz1,sm⟩
  ·obtain rfl:i1=a0.length:=ot
   exact retX
end N55
def D_zjg : DF
 | [x0,x1]=>some (.bool (zjg (rdL yu x0) (rdL yu x1)),false,[wL 3 yl yu x0,wL 3 yl yu x1])
 | _=>none
theorem y05:OkD Tryz.prog 55 D_zjg:=by unfold D_zjg;exact dk N55.den
def ymy (a0:(List Int)) (a1:(List Int)) (i1:Nat) (s1:Unit):Except (Bool) (Unit):=
 (bif ((a0.getD i1 default) != (a1.getD i1 default))then .error false else .ok ())
def zkg (a0:(List Int)) (a1:(List Int)):Bool:=
 (bif ((a0.length:Int) != (a1.length:Int))then false else(match ye (ymy a0 a1) (a0.length-0) 0 ()with|.error e=>e|.ok s1=>true))
namespace N103
theorem DD:DOk Tryz.prog (Go.Ab.DD []):=yc _
theorem den (a0:(List Int)) (a1:(List Int))  : Den Tryz.prog 103 [encL 1 yy a0,encL 1 yy a1] (.bool (zkg a0 a1)):=by
 generalize hR:zkg a0 a1=r;unfold zkg at hR;refine di Tryz.func103 Tryz.ntmps103 Tryz.results103 ?_;intro c hL hc hk;obtain⟨hL0,hL1,_⟩:=hL;have hw0:=lwA hL0;have hw1:=lwA hL1;clear hL0 hL1;simp only[pars,Nat.zero_add];iterate 2 refine rS ?_
 refine yb ?_ ?_<;>intro hb
 ·replace hR:=ct hR
  exact retR
 ·replace hR:=cf hR
  refine rS ?_;refine AWP.block ?_;generalize hz1:ye (ymy a0 a1) (a0.length-0) 0 ()=z1 at hR;refine AWP.range (ymy a0 a1) (fun i1 s1=>⟨[(0,encL 1 yy a0),(1,encL 1 yy a1),(5,.int .i64 (i1:Int))],[]⟩) (fun i1 s1=>True) (a0.length) 0 () [] hz1 ot wt sm ?_;clear hz1;intro i1 s1 hi1 hW1 hz1;refine rS ?_;refine yb ?_ ?_<;>intro hb
  ·have hlt1:i1<a0.length:=ot
   rw[yi hlt1]at hz1;simp only[ymy]at hz1;refine rD 8 ?_;refine yb ?_ ?_<;>intro hb
   ·simp only[hb,cond_true]at hz1
    refine rS ?_;refine AWP.ret ?_;subst hz1;dsimp only at hR;subst hR;exact es
   ·simp only[hb,cond_false]at hz1
    refine rS ?_;exact⟨_,[],hlt1,wt,hz1,sm⟩
  ·obtain rfl:i1=a0.length:=ot
   exact retX
end N103
def D_zkg : DF
 | [x0,x1]=>some (.bool (zkg (rdL y5b x0) (rdL y5b x1)),false,[wL 1 yy y5b x0,wL 1 yy y5b x1])
 | _=>none
theorem yo7:OkD Tryz.prog 103 D_zkg:=by unfold D_zkg;exact dk N103.den
def zkh (a0:Character) (a1:Character):Bool:=
 (((((a0.Kind == a1.Kind) && (zkg a0.Group a1.Group)) && (a0.Letter == a1.Letter)) && (a0.Colors == a1.Colors)) && (a0.Period == a1.Period))
namespace N54
theorem DD:DOk Tryz.prog (Go.Ab.DD [(103,dP D_zkg)]):=ya yo7.e <| yc _
abbrev dn:=@D_zkg.eq_1
theorem den (a0:Character) (a1:Character)  : Den Tryz.prog 54 [.ep (yh a0),.ep (yh a1)] (.bool (zkh a0 a1)):=by
 generalize hR:zkh a0 a1=r;unfold zkh at hR;refine di Tryz.func54 Tryz.ntmps54 Tryz.results54 ?_;intro c hL hc hk;obtain⟨hL0,hL1,_⟩:=hL;have hw0:bwCharacter a0:=yp a0 hL0;have hw1:bwCharacter a1:=yp a1 hL1;clear hL0 hL1;simp only[pars,Nat.zero_add];refine rS ?_;refine rD 53 ?_;exact retE
end N54
def D_zkh : DF
 | [x0,x1]=>some (.bool (zkh (rdP yd x0) (rdP yd x1)),false,[wP yh yd x0,wP yh yd x1])
 | _=>none
theorem yw4:OkD Tryz.prog 54 D_zkh:=by unfold D_zkh;exact dk N54.den
def zrc (a0:Aid) (a1:Aid):Bool:=
 ((((((((a0.Number == a1.Number) && (a0.Name == a1.Name)) && (a0.At.X == a1.At.X && a0.At.Y == a1.At.Y)) && (a0.Height == a1.Height)) && (a0.Mark.Kind == a1.Mark.Kind && (a0.Mark.Colors == a1.Mark.Colors && (a0.Mark.Shape == a1.Mark.Shape && a0.Mark.Topmark == a1.Mark.Topmark)))) && (zkh a0.Light a1.Light)) && (zjg a0.Sectors a1.Sectors)) && (a0.Intensity == a1.Intensity))
namespace N27
theorem DD:DOk Tryz.prog (Go.Ab.DD [(54,dP D_zkh),(55,dP D_zjg)]):=ya yw4.e <| ya y05.e <| yc _
abbrev dn:=cj @D_zkh.eq_1 <| @D_zjg.eq_1
set_option maxHeartbeats 4000000 in
set_option maxRecDepth 20000 in
theorem den (a0:Aid) (a1:Aid)  : Den Tryz.prog 27 [.ep (eAid a0),.ep (eAid a1)] (.bool (zrc a0 a1)):=by
 generalize hR:zrc a0 a1=r;unfold zrc at hR;refine di Tryz.func27 Tryz.ntmps27 Tryz.results27 ?_;intro c hL hc hk;obtain⟨hL0,hL1,_⟩:=hL;have hw0:bwAid a0:=yr a0 hL0;have hw1:bwAid a1:=yr a1 hL1;clear hL0 hL1;simp only[pars,Nat.zero_add];refine rS ?_;refine rD 84 ?_;exact retE
end N27
def D_zrc : DF
 | [x0,x1]=>some (.bool (zrc (rdP dAid x0) (rdP dAid x1)),false,[wP eAid dAid x0,wP eAid dAid x1])
 | _=>none
theorem y5p:OkD Tryz.prog 27 D_zrc:=by unfold D_zrc;exact dk N27.den
def y2o (a0:(List Aid)) (a1:(List Aid)) (i1:Nat) (s1:Unit):Except (Bool) (Unit):=
 (bif (!(zrc (a0.getD i1 default) (a1.getD i1 default)))then .error false else .ok ())
def zkf (a0:(List Aid)) (a1:(List Aid)):Bool:=
 (bif ((a0.length:Int) != (a1.length:Int))then false else(match ye (y2o a0 a1) (a0.length-0) 0 ()with|.error e=>e|.ok s1=>true))
namespace N10
theorem DD:DOk Tryz.prog (Go.Ab.DD [(27,dP D_zrc)]):=ya y5p.e <| yc _
abbrev dn:=@D_zrc.eq_1
theorem den (a0:(List Aid)) (a1:(List Aid))  : Den Tryz.prog 10 [encL 16 eAid a0,encL 16 eAid a1] (.bool (zkf a0 a1)):=by
 generalize hR:zkf a0 a1=r;unfold zkf at hR;refine di Tryz.func10 Tryz.ntmps10 Tryz.results10 ?_;intro c hL hc hk;obtain⟨hL0,hL1,_⟩:=hL;have hw0:=lwA hL0;have hw1:∀ v∈a0,bwAid v:=fun v hv=>yr v ((yj hL0).2 v hv)
 have hw2:=lwA hL1;have hw3:∀ v∈a1,bwAid v:=fun v hv=>yr v ((yj hL1).2 v hv)
 clear hL0 hL1;simp only[pars,Nat.zero_add];iterate 2 refine rS ?_
 refine yb ?_ ?_<;>intro hb
 ·replace hR:=ct hR
  exact retR
 ·replace hR:=cf hR
  refine rS ?_;refine AWP.block ?_;generalize hz1:ye (y2o a0 a1) (a0.length-0) 0 ()=z1 at hR;refine AWP.range (y2o a0 a1) (fun i1 s1=>⟨[(0,encL 16 eAid a0),(1,encL 16 eAid a1),(5,.int .i64 (i1:Int))],[]⟩) (fun i1 s1=>True) (a0.length) 0 () [] hz1 ot wt sm ?_;clear hz1;intro i1 s1 hi1 hW1 hz1;refine rS ?_;refine yb ?_ ?_<;>intro hb
  ·have hlt1:i1<a0.length:=ot
   rw[yi hlt1]at hz1;simp only[y2o]at hz1;refine rD 6 ?_;refine yb ?_ ?_<;>intro hb
   ·simp only[hb,cond_true]at hz1
    refine rS ?_;refine AWP.ret ?_;subst hz1;dsimp only at hR;subst hR;exact es
   ·simp only[hb,cond_false]at hz1
    refine rS ?_;exact⟨_,[],hlt1,wt,hz1,sm⟩
  ·obtain rfl:i1=a0.length:=ot
   exact retX
end N10
def D_zkf : DF
 | [x0,x1]=>some (.bool (zkf (rdL dAid x0) (rdL dAid x1)),false,[wL 16 eAid dAid x0,wL 16 eAid dAid x1])
 | _=>none
theorem yn8:OkD Tryz.prog 10 D_zkf:=by unfold D_zkf;exact dk N10.den
def zzf (a0:(List Int)):l00Src:=
 { code:=a0,at_:=0,seed:=0:l00Src }
namespace N17
theorem DD:DOk Tryz.prog (Go.Ab.DD []):=yc _
theorem den (a0:(List Int))  : Den Tryz.prog 17 [encL 1 eIu8 a0] (.op (yt (zzf a0))):=by
 generalize hR:zzf a0=r;unfold zzf at hR;refine di Tryz.func17 Tryz.ntmps17 Tryz.results17 ?_;intro c hL hc hk;obtain⟨hL0,_⟩:=hL;have hw0:=lwA hL0;clear hL0;simp only[pars,Nat.zero_add];refine rS ?_;exact retR
end N17
def D_zzf : DF
 | [x0]=>some (.op (yt (zzf (rdL dIu8 x0))),false,[wL 1 eIu8 dIu8 x0])
 | _=>none
theorem yzx:OkD Tryz.prog 17 D_zzf:=by unfold D_zzf;exact dk N17.den
def zkd (a0:l00Src):Int×l00Src:=
 (bif decide (a0.at_<(a0.code.length:Int))then(bif decide ((IntKind.wrap .i64 (a0.at_+1))<=(a0.code.length:Int))then(IntKind.wrap .i64 (a0.code.getD ((a0.at_).toNat) default),{ code:=a0.code,at_:=IntKind.wrap .i64 (a0.at_+1),seed:=IntKind.wrap .u64 ((IntKind.wrap .u64 ((IntKind.wrap .u64 (a0.seed * 6364136223846793005))+(IntKind.wrap .u64 (IntKind.wrap .i64 (a0.code.getD ((a0.at_).toNat) default)))))+1442695040888963407):l00Src })else(IntKind.wrap .i64 (IntKind.wrap .u64 (BitVec.ofInt (IntKind.bits .u64) ((IntKind.wrap .u64 ((IntKind.wrap .u64 ((IntKind.wrap .u64 (a0.seed * 6364136223846793005))+(IntKind.wrap .u64 (IntKind.wrap .i64 (a0.code.getD ((a0.at_).toNat) default)))))+1442695040888963407)).fdiv (2 ^ (Min.min 40 (IntKind.bits .u64)))) &&& BitVec.ofInt (IntKind.bits .u64) 255).toNat),{ code:=a0.code,at_:=IntKind.wrap .i64 (a0.at_+1),seed:=IntKind.wrap .u64 ((IntKind.wrap .u64 ((IntKind.wrap .u64 (a0.seed * 6364136223846793005))+(IntKind.wrap .u64 (IntKind.wrap .i64 (a0.code.getD ((a0.at_).toNat) default)))))+1442695040888963407):l00Src }))else(bif decide ((IntKind.wrap .i64 (a0.at_+1))<=(a0.code.length:Int))then(0,{ code:=a0.code,at_:=IntKind.wrap .i64 (a0.at_+1),seed:=IntKind.wrap .u64 ((IntKind.wrap .u64 ((IntKind.wrap .u64 (a0.seed * 6364136223846793005))+(IntKind.wrap .u64 0)))+1442695040888963407):l00Src })else(IntKind.wrap .i64 (IntKind.wrap .u64 (BitVec.ofInt (IntKind.bits .u64) ((IntKind.wrap .u64 ((IntKind.wrap .u64 ((IntKind.wrap .u64 (a0.seed * 6364136223846793005))+(IntKind.wrap .u64 0)))+1442695040888963407)).fdiv (2 ^ (Min.min 40 (IntKind.bits .u64)))) &&& BitVec.ofInt (IntKind.bits .u64) 255).toNat),{ code:=a0.code,at_:=IntKind.wrap .i64 (a0.at_+1),seed:=IntKind.wrap .u64 ((IntKind.wrap .u64 ((IntKind.wrap .u64 (a0.seed * 6364136223846793005))+(IntKind.wrap .u64 0)))+1442695040888963407):l00Src })))
namespace N82
theorem DD:DOk Tryz.prog (Go.Ab.DD []):=yc _
theorem o1 {p:Prop} (h:p:=by(first|(refine SrcOk.mono (by repeat' first|assumption|exact SrcOk.next ‹_› | apply SrcOk.next|apply SrcOk.pick|apply SrcOk.among|apply SrcOk.text|apply SrcOk.name|apply SrcOk.drawName|apply SrcOk.word|apply SrcOk.entry|apply SrcOk.base|omega) (by omega)));first|done|fail):p:=h
theorem den (a0:l00Src) (hp0:SrcOk 1000000 a0):DenM Tryz.prog 82 [.op (yt a0)] (.int .i64 ((zkd a0).1)) [(.op (yt ((zkd a0).2)))]:=by
 generalize hR:zkd a0=r;unfold zkd at hR;refine dj (gb:=[true]) Tryz.func82 Tryz.ntmps82 Tryz.results82 ?_;intro c hL hc hk;obtain⟨hL0,_⟩:=hL;have hw0:bwl00Src a0:=ykb a0 hL0;clear hL0;simp only[adEL,adE,adRL,adR,ownL,encL,sv,List.nil_append,List.append_nil,List.cons_append,List.length_cons,List.length_nil,pars,Nat.zero_add,Nat.reduceAdd]at hk ⊢;have hp1:=hp0.lo;have hp2:=hp0.hi;iterate 2 refine rS ?_
 refine rD 10 ?_;refine yb ?_ ?_<;>intro hb
 ·replace hR:=ct hR
  refine rD 11 ?_;iterate 2 refine rS ?_
  refine rD 10 ?_;refine yb ?_ ?_<;>intro hb
  ·replace hR:=ct hR
   exact retR
  ·replace hR:=cf hR
   exact retR
 ·replace hR:=cf hR
  iterate 2 refine rS ?_
  refine rD 10 ?_;refine yb ?_ ?_<;>intro hb
  ·replace hR:=ct hR
   exact retR
  ·replace hR:=cf hR
   exact retR
end N82
def D_zkd : List AV -> Option (AV × List AV × List Prop)
 | [x0]=>some (.int .i64 ((zkd (rdQ yx x0)).1),[(.op (yt ((zkd (rdQ yx x0)).2)))],[wQ yt yx x0,SrcOk 1000000 (rdQ yx x0)])
 | _=>none
theorem y54:OkM Tryz.prog 82 D_zkd:=by unfold D_zkd;exact dm N82.den
theorem yex {n:Int} {s:l00Src} (h:SrcOk n s) (hn:n<=4000000000):0<=(zkd s).1/\(zkd s).1<=255:=by
 have h1:=h.lo;have h2:=h.hi;have hb:0<=s.code.getD s.at_.toNat default/\s.code.getD s.at_.toNat default<=255:=ytf (p:=fun v=>0<=v/\v<=255) h.by_ (by decide) _
 have hand:∀ x:Int,0<=((BitVec.ofInt (IntKind.bits .u64) x &&& BitVec.ofInt (IntKind.bits .u64) 255).toNat:Int)/\((BitVec.ofInt (IntKind.bits .u64) x &&& BitVec.ofInt (IntKind.bits .u64) 255).toNat:Int)<=255:=by
  intro x;refine⟨Int.natCast_nonneg _,?_⟩;rw[BitVec.toNat_and];have:=Nat.and_le_right (n:=(BitVec.ofInt (IntKind.bits .u64) x).toNat) (m:=(BitVec.ofInt (IntKind.bits .u64) 255).toNat);have e:(BitVec.ofInt (IntKind.bits .u64) 255).toNat=255:=by decide
  omega
 have hw:∀ y:Int,0<=y->y<=255->IntKind.wrap .i64 (IntKind.wrap .u64 y)=y:=by
  intro y _ _
  have:IntKind.wrap .u64 y=y:=by
   simp[IntKind.wrap,IntKind.bits,IntKind.signed];omega
  rw[this,IntKind.wrap_i64];omega
 unfold zkd;simp only[Bool.cond_eq_ite];repeat' split
 all_goals first
  | (simp only[IntKind.wrap_i64];omega)
  | (rw[hw _ (hand _).1 (hand _).2];exact hand _)
theorem SrcOk.next {n:Int} {s:l00Src} (h:SrcOk n s) (hn:n<=4000000000):SrcOk (n+1) (zkd s).2:=by
 have h1:=h.lo;have h2:=h.hi;unfold zkd;simp only[Bool.cond_eq_ite];repeat' split
 all_goals exact⟨by simp only[IntKind.wrap_i64];omega,by simp only[IntKind.wrap_i64];omega,h.by_⟩
def za (a0:l00Src) (a1:Int):Int×l00Src:=
 (bif decide (a1<=1)then(0,a0)else(bif decide (200<a1)then((IntKind.wrap .i64 ((IntKind.wrap .i64 (((zkd a0).1) * 256))+((zkd ((zkd a0).2)).1))).tmod a1,(zkd ((zkd a0).2)).2)else(((zkd a0).1).tmod a1,(zkd a0).2)))
namespace N38
theorem DD:DOk Tryz.prog (Go.Ab.DD [(82,dM [true] D_zkd)]):=ya y54.e <| yc _
abbrev dn:=@D_zkd.eq_1
theorem o1 {p:Prop} (h:p:=by(first|(refine SrcOk.mono (by repeat' first|assumption|exact SrcOk.next ‹_› | apply SrcOk.next|apply SrcOk.pick|apply SrcOk.among|apply SrcOk.text|apply SrcOk.name|apply SrcOk.drawName|apply SrcOk.word|apply SrcOk.entry|apply SrcOk.base|omega) (by omega)));first|done|fail):p:=h
theorem den (a0:l00Src) (a1:Int) (hp0:SrcOk 900000 a0):DenM Tryz.prog 38 [.op (yt a0),.int .i64 a1] (.int .i64 ((za a0 a1).1)) [(.op (yt ((za a0 a1).2))),.any]:=by
 generalize hR:za a0 a1=r;unfold za at hR;refine dj (gb:=[true,false]) Tryz.func38 Tryz.ntmps38 Tryz.results38 ?_;intro c hL hc hk;obtain⟨hL0,hL1,_⟩:=hL;have hw0:bwl00Src a0:=ykb a0 hL0;clear hL0 hL1;simp only[adEL,adE,adRL,adR,ownL,encL,sv,List.nil_append,List.append_nil,List.cons_append,List.length_cons,List.length_nil,pars,Nat.zero_add,Nat.reduceAdd]at hk ⊢;iterate 2 refine rS ?_
 refine yb ?_ ?_<;>intro hb
 ·replace hR:=ct hR
  exact retR
 ·replace hR:=cf hR
  iterate 2 refine rS ?_
  refine yb ?_ ?_<;>intro hb
  ·replace hR:=ct hR
   refine rS ?_;exact retR
  ·replace hR:=cf hR
   exact retR
end N38
def D_za : List AV -> Option (AV × List AV × List Prop)
 | [x0,x1]=>some (.int .i64 ((za (rdQ yx x0) (rdI x1)).1),[(.op (yt ((za (rdQ yx x0) (rdI x1)).2))),.any],[wQ yt yx x0,wI .i64 x1,SrcOk 900000 (rdQ yx x0)])
 | _=>none
theorem ylf:OkM Tryz.prog 38 D_za:=by unfold D_za;exact dm N38.den
theorem yn {n:Int} {s:l00Src} (m:Int) (h:SrcOk n s) (hn:n<=2000000000):0<=(za s m).1/\(1<=m->(za s m).1<m):=by
 have v1:=yex h (by omega);have v2:=yex (h.next (by omega)) (by omega);unfold za;simp only[Bool.cond_eq_ite,decide_eq_true_eq];repeat' split
 ·simp;omega
 ·have hx:0<=IntKind.wrap .i64 (IntKind.wrap .i64 ((zkd s).1 * 256)+(zkd (zkd s).2).1):=by
   simp only[IntKind.wrap_i64];omega
  exact⟨Int.tmod_nonneg _ hx,fun _=>Int.tmod_lt_of_pos _ (by omega)⟩
 ·exact⟨Int.tmod_nonneg _ v1.1,fun _=>Int.tmod_lt_of_pos _ (by omega)⟩
theorem SrcOk.pick {n:Int} {s:l00Src} {m:Int} (h:SrcOk n s) (hn:n<=2000000000):SrcOk (n+2) (za s m).2:=by
 unfold za;simp only[Bool.cond_eq_ite,decide_eq_true_eq];repeat' split
 ·exact h.mono (by omega)
 ·have:=(h.next (by omega)).next (by omega)
  exact this.mono (by omega)
 ·exact(h.next (by omega)).mono (by omega)
def zn (a0:l00Src) (a1:Int):Bool×l00Src:=
 ((((za a0 a1).1) == 0),(za a0 a1).2)
namespace N42
theorem DD:DOk Tryz.prog (Go.Ab.DD [(38,dM [true,false] D_za)]):=ya ylf.e <| yc _
abbrev dn:=@D_za.eq_1
theorem o1 {p:Prop} (h:p:=by(first|(refine SrcOk.mono (by repeat' first|assumption|exact SrcOk.next ‹_› | apply SrcOk.next|apply SrcOk.pick|apply SrcOk.among|apply SrcOk.text|apply SrcOk.name|apply SrcOk.drawName|apply SrcOk.word|apply SrcOk.entry|apply SrcOk.base|omega) (by omega)));first|done|fail):p:=h
theorem den (a0:l00Src) (a1:Int) (hp0:SrcOk 800000 a0):DenM Tryz.prog 42 [.op (yt a0),.int .i64 a1] (.bool ((zn a0 a1).1)) [(.op (yt ((zn a0 a1).2))),.any]:=by
 generalize hR:zn a0 a1=r;unfold zn at hR;refine dj (gb:=[true,false]) Tryz.func42 Tryz.ntmps42 Tryz.results42 ?_;intro c hL hc hk;obtain⟨hL0,hL1,_⟩:=hL;have hw0:bwl00Src a0:=ykb a0 hL0;clear hL0 hL1;simp only[adEL,adE,adRL,adR,ownL,encL,sv,List.nil_append,List.append_nil,List.cons_append,List.length_cons,List.length_nil,pars,Nat.zero_add,Nat.reduceAdd]at hk ⊢;refine rS ?_;exact retR
end N42
def D_zn : List AV -> Option (AV × List AV × List Prop)
 | [x0,x1]=>some (.bool ((zn (rdQ yx x0) (rdI x1)).1),[(.op (yt ((zn (rdQ yx x0) (rdI x1)).2))),.any],[wQ yt yx x0,wI .i64 x1,SrcOk 800000 (rdQ yx x0)])
 | _=>none
theorem y3l:OkM Tryz.prog 42 D_zn:=by unfold D_zn;exact dm N42.den
def zx (a0:l00Src) (a1:(List (List UInt8))):(List UInt8)×l00Src:=
 ((a1.getD ((((za a0 (a1.length:Int)).1)).toNat) default),(za a0 (a1.length:Int)).2)
namespace N83
theorem DD:DOk Tryz.prog (Go.Ab.DD [(38,dM [true,false] D_za)]):=ya ylf.e <| yc _
abbrev dn:=@D_za.eq_1
theorem o1 {p:Prop} (h:p:=by(first|(refine SrcOk.mono (by repeat' first|assumption|exact SrcOk.next ‹_› | apply SrcOk.next|apply SrcOk.pick|apply SrcOk.among|apply SrcOk.text|apply SrcOk.name|apply SrcOk.drawName|apply SrcOk.word|apply SrcOk.entry|apply SrcOk.base|omega) (by omega)));first|done|fail):p:=h
theorem den (a0:l00Src) (a1:(List (List UInt8))) (hp0:SrcOk 800000 a0) (hp1:1<=a1.length):DenM Tryz.prog 83 [.op (yt a0),ownL 9 1 eS a1] (.str ((zx a0 a1).1)) [(.op (yt ((zx a0 a1).2))),.any]:=by
 generalize hR:zx a0 a1=r;unfold zx at hR;refine dj (gb:=[true,false]) Tryz.func83 Tryz.ntmps83 Tryz.results83 ?_;intro c hL hc hk;obtain⟨hL0,hL1,_⟩:=hL;have hw0:bwl00Src a0:=ykb a0 hL0;have hw1:a1.length<9223372036854775808:=Nat.lt_succ_of_le (yln hL1).1;have hw2:∀ v∈a1,bwS v:=fun v hv=>yez v ((yln hL1).2 v hv)
 clear hL0 hL1;simp only[adEL,adE,adRL,adR,ownL,encL,sv,List.nil_append,List.append_nil,List.cons_append,List.length_cons,List.length_nil,pars,Nat.zero_add,Nat.reduceAdd]at hk ⊢;have hr:=yn (a1.length:Int) hp0 (by omega);refine rS ?_;exact retR
end N83
def D_zx : List AV -> Option (AV × List AV × List Prop)
 | [x0,x1]=>some (.str ((zx (rdQ yx x0) (rdL dS x1)).1),[(.op (yt ((zx (rdQ yx x0) (rdL dS x1)).2))),.any],[wQ yt yx x0,wO 9 1 eS dS x1,SrcOk 800000 (rdQ yx x0),1<=(rdL dS x1).length])
 | _=>none
theorem ydw:OkM Tryz.prog 83 D_zx:=by unfold D_zx;exact dm N83.den
def zk (a0:l00Src) (a1:(List Int)):Int×l00Src:=
 ((a1.getD ((((za a0 (a1.length:Int)).1)).toNat) default),(za a0 (a1.length:Int)).2)
namespace N87
theorem DD:DOk Tryz.prog (Go.Ab.DD [(38,dM [true,false] D_za)]):=ya ylf.e <| yc _
abbrev dn:=@D_za.eq_1
theorem o1 {p:Prop} (h:p:=by(first|(refine SrcOk.mono (by repeat' first|assumption|exact SrcOk.next ‹_› | apply SrcOk.next|apply SrcOk.pick|apply SrcOk.among|apply SrcOk.text|apply SrcOk.name|apply SrcOk.drawName|apply SrcOk.word|apply SrcOk.entry|apply SrcOk.base|omega) (by omega)));first|done|fail):p:=h
theorem den (a0:l00Src) (a1:(List Int)) (hp0:SrcOk 800000 a0) (hp1:1<=a1.length):DenM Tryz.prog 87 [.op (yt a0),ownL 2 1 yy a1] (.int .i64 ((zk a0 a1).1)) [(.op (yt ((zk a0 a1).2))),.any]:=by
 generalize hR:zk a0 a1=r;unfold zk at hR;refine dj (gb:=[true,false]) Tryz.func87 Tryz.ntmps87 Tryz.results87 ?_;intro c hL hc hk;obtain⟨hL0,hL1,_⟩:=hL;have hw0:bwl00Src a0:=ykb a0 hL0;have hw1:a1.length<9223372036854775808:=Nat.lt_succ_of_le (yln hL1).1;clear hL0 hL1;simp only[adEL,adE,adRL,adR,ownL,encL,sv,List.nil_append,List.append_nil,List.cons_append,List.length_cons,List.length_nil,pars,Nat.zero_add,Nat.reduceAdd]at hk ⊢;have hr:=yn (a1.length:Int) hp0 (by omega);refine rS ?_;exact retR
end N87
def D_zk : List AV -> Option (AV × List AV × List Prop)
 | [x0,x1]=>some (.int .i64 ((zk (rdQ yx x0) (rdL y5b x1)).1),[(.op (yt ((zk (rdQ yx x0) (rdL y5b x1)).2))),.any],[wQ yt yx x0,wO 2 1 yy y5b x1,SrcOk 800000 (rdQ yx x0),1<=(rdL y5b x1).length])
 | _=>none
theorem yzv:OkM Tryz.prog 87 D_zk:=by unfold D_zk;exact dm N87.den
theorem SrcOk.one {n:Int} {s:l00Src} {m:Int} (h:SrcOk n s) (hn:n<=2000000000):SrcOk (n+2) (zn s m).2:=by
 unfold zn;exact h.pick hn
theorem SrcOk.among {n:Int} {s:l00Src} {l} (h:SrcOk n s) (hn:n<=2000000000):SrcOk (n+2) (zk s l).2:=by
 unfold zk;exact h.pick hn
def zyb (a0:l00Src):Point×l00Src:=
 (bnd ((zk a0 ([20,100,100,100]:List Int)).2) fun q2=>(bnd ((za q2 ((zk a0 ([20,100,100,100]:List Int)).1)).2) fun q4=>(bnd ((za q4 ((zk a0 ([20,100,100,100]:List Int)).1)).2) fun q6=>(bnd ((zn q6 3).2) fun q8=>(bif ((zn q6 3).1)then(bnd ((za q8 200).2) fun q10=>(bnd ((zn q10 3).2) fun q12=>(bif ((zn q10 3).1)then(bnd ((za q12 200).2) fun q14=>({ X:=IntKind.wrap .i64 ((IntKind.wrap .i64 (10000+(IntKind.wrap .i64 (((za q2 ((zk a0 ([20,100,100,100]:List Int)).1)).1) * 100))))+((za q8 200).1)),Y:=IntKind.wrap .i64 ((IntKind.wrap .i64 (10000+(IntKind.wrap .i64 (((za q4 ((zk a0 ([20,100,100,100]:List Int)).1)).1) * 100))))+((za q12 200).1)):Point },q14))else({ X:=IntKind.wrap .i64 ((IntKind.wrap .i64 (10000+(IntKind.wrap .i64 (((za q2 ((zk a0 ([20,100,100,100]:List Int)).1)).1) * 100))))+((za q8 200).1)),Y:=IntKind.wrap .i64 (10000+(IntKind.wrap .i64 (((za q4 ((zk a0 ([20,100,100,100]:List Int)).1)).1) * 100))):Point },q12))))else(bnd ((zn q8 3).2) fun q16=>(bif ((zn q8 3).1)then(bnd ((za q16 200).2) fun q18=>({ X:=IntKind.wrap .i64 (10000+(IntKind.wrap .i64 (((za q2 ((zk a0 ([20,100,100,100]:List Int)).1)).1) * 100))),Y:=IntKind.wrap .i64 ((IntKind.wrap .i64 (10000+(IntKind.wrap .i64 (((za q4 ((zk a0 ([20,100,100,100]:List Int)).1)).1) * 100))))+((za q16 200).1)):Point },q18))else({ X:=IntKind.wrap .i64 (10000+(IntKind.wrap .i64 (((za q2 ((zk a0 ([20,100,100,100]:List Int)).1)).1) * 100))),Y:=IntKind.wrap .i64 (10000+(IntKind.wrap .i64 (((za q4 ((zk a0 ([20,100,100,100]:List Int)).1)).1) * 100))):Point },q16))))))))
namespace N84
theorem DD:DOk Tryz.prog (Go.Ab.DD [(38,dM [true,false] D_za),(42,dM [true,false] D_zn),(87,dM [true,true] D_zk)]):=ya ylf.e <| ya y3l.e <| ya yzv.e <| yc _
abbrev dn:=cj @D_za.eq_1 <| cj @D_zn.eq_1 <| @D_zk.eq_1
theorem o1 {p:Prop} (h:p:=by(first|(refine SrcOk.mono (by repeat' first|assumption|exact SrcOk.next ‹_› | apply SrcOk.next|apply SrcOk.pick|apply SrcOk.one|apply SrcOk.among|apply SrcOk.text|apply SrcOk.colors|apply SrcOk.point|apply SrcOk.chr|apply SrcOk.sectors|apply SrcOk.aid|apply SrcOk.aids|apply SrcOk.notice|omega) (by omega)));first|done|fail):p:=h
theorem lx {p:Prop} (h:p:=by(exact lxx);first|done|fail):p:=h
set_option maxHeartbeats 2000000 in
set_option maxRecDepth 20000 in
theorem den (a0:l00Src) (hp0:SrcOk 700000 a0):DenM Tryz.prog 84 [.op (yt a0)] (.agg (y8e ((zyb a0).1))) [(.op (yt ((zyb a0).2)))]:=by
 generalize hR:zyb a0=r;unfold zyb at hR;refine dj (gb:=[true]) Tryz.func84 Tryz.ntmps84 Tryz.results84 ?_;intro c hL hc hk;obtain⟨hL0,_⟩:=hL;have hw0:bwl00Src a0:=ykb a0 hL0;clear hL0;simp only[adEL,adE,adRL,adR,ownL,encL,sv,List.nil_append,List.append_nil,List.cons_append,List.length_cons,List.length_nil,pars,Nat.zero_add,Nat.reduceAdd]at hk ⊢;iterate 2 refine rS ?_
 generalize hq2:(zk a0 ([20,100,100,100]:List Int)).2=q2 at hR ⊢;replace hR:=bn hR;have hS_q2:SrcOk (700002) q2:=by rw[<- hq2];exact SrcOk.among hp0 (by omega)
 refine rS ?_;generalize hq4:(za q2 ((zk a0 ([20,100,100,100]:List Int)).1)).2=q4 at hR ⊢;replace hR:=bn hR;have hS_q4:SrcOk (700004) q4:=by rw[<- hq4];exact SrcOk.pick hS_q2 (by omega)
 refine rS ?_;generalize hq6:(za q4 ((zk a0 ([20,100,100,100]:List Int)).1)).2=q6 at hR ⊢;replace hR:=bn hR;have hS_q6:SrcOk (700006) q6:=by rw[<- hq6];exact SrcOk.pick hS_q4 (by omega)
 refine rS ?_;generalize hq8:(zn q6 3).2=q8 at hR ⊢;replace hR:=bn hR;have hS_q8:SrcOk (700008) q8:=by rw[<- hq8];exact SrcOk.one hS_q6 (by omega)
 refine yb ?_ ?_<;>intro hb
 ·replace hR:=ct hR
  refine rS ?_;generalize hq10:(za q8 200).2=q10 at hR ⊢;replace hR:=bn hR;have hS_q10:SrcOk (700010) q10:=by rw[<- hq10];exact SrcOk.pick hS_q8 (by omega)
  refine rS ?_;generalize hq12:(zn q10 3).2=q12 at hR ⊢;replace hR:=bn hR;have hS_q12:SrcOk (700012) q12:=by rw[<- hq12];exact SrcOk.one hS_q10 (by omega)
  refine yb ?_ ?_<;>intro hb
  ·replace hR:=ct hR
   refine rS ?_;generalize hq14:(za q12 200).2=q14 at hR ⊢;replace hR:=bn hR;have hS_q14:SrcOk (700014) q14:=by rw[<- hq14];exact SrcOk.pick hS_q12 (by omega)
   exact retR
  ·replace hR:=cf hR
   exact retR
 ·replace hR:=cf hR
  refine rS ?_;generalize hq16:(zn q8 3).2=q16 at hR ⊢;replace hR:=bn hR;have hS_q16:SrcOk (700010) q16:=by rw[<- hq16];exact SrcOk.one hS_q8 (by omega)
  refine yb ?_ ?_<;>intro hb
  ·replace hR:=ct hR
   refine rS ?_;generalize hq18:(za q16 200).2=q18 at hR ⊢;replace hR:=bn hR;have hS_q18:SrcOk (700012) q18:=by rw[<- hq18];exact SrcOk.pick hS_q16 (by omega)
   exact retR
  ·replace hR:=cf hR
   exact retR
end N84
def D_zyb : List AV -> Option (AV × List AV × List Prop)
 | [x0]=>some (.agg (y8e ((zyb (rdQ yx x0)).1)),[(.op (yt ((zyb (rdQ yx x0)).2)))],[wQ yt yx x0,SrcOk 700000 (rdQ yx x0)])
 | _=>none
theorem yj9:OkM Tryz.prog 84 D_zyb:=by unfold D_zyb;exact dm N84.den
def zlf (a0:Int):(Mark×Int):=
 (bif (!(zlc a0))then({ Kind:=0,Colors:=[],Shape:=[],Topmark:=[]:Mark },2)else({ Kind:=a0,Colors:=(zbe a0),Shape:=((zeb a0).getD 0 default),Topmark:=(zke a0):Mark },0))
namespace N85
theorem DD:DOk Tryz.prog (Go.Ab.DD [(137,dP D_zlc),(138,dP D_zbe),(139,dP D_zeb),(140,dP D_zke)]):=ya yhr.e <| ya y0q.e <| ya yjx.e <| ya yqq.e <| yc _
theorem DZ:DOk Tryz.prog (Go.Ab.DD [(137,dP D_zlc),(138,dP D_zbe),(139,dP Dz_zeb),(140,dP D_zke)]):=ya yhr.e <| ya y0q.e <| ya y42.e <| ya yqq.e <| yc _
abbrev dn:=cj @D_zlc.eq_1 <| cj @D_zbe.eq_1 <| cj @D_zeb.eq_1 <| cj @D_zke.eq_1 <| @Dz_zeb.eq_1
theorem o1 {p:Prop} (h:p:=by(first|(have h9:=hki (by assumption);omega));first|done|fail):p:=h
theorem den (a0:Int)  : Den Tryz.prog 85 [.int .i64 a0] (.tup [.agg (yuf ((zlf a0).1)),.int .i64 ((zlf a0).2)]):=by
 generalize hR:zlf a0=r;unfold zlf at hR;refine di Tryz.func85 Tryz.ntmps85 Tryz.results85 ?_;intro c hL hc hk;clear hL;simp only[pars,Nat.zero_add];have hs5:1<=(zeb a0).length:=by unfold zeb;simp only[Bool.cond_eq_ite];(repeat' split)<;>simp
 have hki:zlc a0=true->0<=a0/\a0<=9:=fun h=>by unfold zlc zj at h;simp at h;omega
 iterate 2 refine rS ?_
 refine yb ?_ ?_<;>intro hb
 ·replace hR:=ct hR
  exact retR
 ·replace hR:=cf hR
  refine rZ 9 ?_;exact retE
end N85
def D_zlf : DF
 | [x0]=>some (.tup [.agg (yuf ((zlf (rdI x0)).1)),.int .i64 ((zlf (rdI x0)).2)],false,[wI .i64 x0])
 | _=>none
theorem ya8:OkD Tryz.prog 85 D_zlf:=by unfold D_zlf;exact dk N85.den
theorem SrcOk.text {n:Int} {s:l00Src} {l} (h:SrcOk n s) (hn:n<=2000000000):SrcOk (n+2) (zx s l).2:=by
 unfold zx;exact h.pick hn
def zfc (a0:l00Src):(List UInt8)×l00Src:=
 (((zx a0 ([[87],[87],[82],[71],[89],[87,82],[82,71],[87,82,71],[87,71]]:List (List UInt8))).1),(zx a0 ([[87],[87],[82],[71],[89],[87,82],[82,71],[87,82,71],[87,71]]:List (List UInt8))).2)
namespace N141
theorem DD:DOk Tryz.prog (Go.Ab.DD [(83,dM [true,true] D_zx)]):=ya ydw.e <| yc _
abbrev dn:=@D_zx.eq_1
theorem o1 {p:Prop} (h:p:=by(first|(refine SrcOk.mono (by repeat' first|assumption|exact SrcOk.next ‹_› | apply SrcOk.next|apply SrcOk.pick|apply SrcOk.one|apply SrcOk.among|apply SrcOk.text|apply SrcOk.colors|apply SrcOk.point|apply SrcOk.chr|apply SrcOk.sectors|apply SrcOk.aid|apply SrcOk.aids|apply SrcOk.notice|omega) (by omega)));first|done|fail):p:=h
theorem lx {p:Prop} (h:p:=by(exact lxx);first|done|fail):p:=h
set_option maxHeartbeats 2000000 in
set_option maxRecDepth 20000 in
theorem den (a0:l00Src) (hp0:SrcOk 700000 a0):DenM Tryz.prog 141 [.op (yt a0)] (.str ((zfc a0).1)) [(.op (yt ((zfc a0).2)))]:=by
 generalize hR:zfc a0=r;unfold zfc at hR;refine dj (gb:=[true]) Tryz.func141 Tryz.ntmps141 Tryz.results141 ?_;intro c hL hc hk;obtain⟨hL0,_⟩:=hL;have hw0:bwl00Src a0:=ykb a0 hL0;clear hL0;simp only[adEL,adE,adRL,adR,ownL,encL,sv,List.nil_append,List.append_nil,List.cons_append,List.length_cons,List.length_nil,pars,Nat.zero_add,Nat.reduceAdd]at hk ⊢;refine rS ?_;exact retR
end N141
def D_zfc : List AV -> Option (AV × List AV × List Prop)
 | [x0]=>some (.str ((zfc (rdQ yx x0)).1),[(.op (yt ((zfc (rdQ yx x0)).2)))],[wQ yt yx x0,SrcOk 700000 (rdQ yx x0)])
 | _=>none
theorem yb6:OkM Tryz.prog 141 D_zfc:=by unfold D_zfc;exact dm N141.den
def zwe (a0:Int) (a1:Int):Int:=
 (bif decide (a0<a1)then a0 else a1)
namespace N145
theorem DD:DOk Tryz.prog (Go.Ab.DD []):=yc _
theorem den (a0:Int) (a1:Int)  : Den Tryz.prog 145 [.int .i64 a0,.int .i64 a1] (.int .i64 (zwe a0 a1)):=by
 generalize hR:zwe a0 a1=r;unfold zwe at hR;refine di Tryz.func145 Tryz.ntmps145 Tryz.results145 ?_;intro c hL hc hk;clear hL;simp only[pars,Nat.zero_add];iterate 2 refine rS ?_
 refine yb ?_ ?_<;>intro hb
 ·replace hR:=ct hR
  exact retR
 ·replace hR:=cf hR
  exact retR
end N145
def D_zwe : DF
 | [x0,x1]=>some (.int .i64 (zwe (rdI x0) (rdI x1)),false,[wI .i64 x0,wI .i64 x1])
 | _=>none
theorem yt8:OkD Tryz.prog 145 D_zwe:=by unfold D_zwe;exact dk N145.den
theorem SrcOk.colors {n:Int} {s:l00Src} (h:SrcOk n s) (hn:n<=2000000000):SrcOk (n+2) (zfc s).2:=by
 unfold zfc;exact h.text hn
def zgc (a0:Aid):Bool:=
 (a0.Light.Kind != 0)
namespace N132
theorem DD:DOk Tryz.prog (Go.Ab.DD []):=yc _
theorem den (a0:Aid)  : Den Tryz.prog 132 [.ep (eAid a0)] (.bool (zgc a0)):=by
 generalize hR:zgc a0=r;unfold zgc at hR;refine di Tryz.func132 Tryz.ntmps132 Tryz.results132 ?_;intro c hL hc hk;obtain⟨hL0,_⟩:=hL;have hw0:bwAid a0:=yr a0 hL0;clear hL0;simp only[pars,Nat.zero_add];refine rS ?_;exact retR
end N132
def D_zgc : DF
 | [x0]=>some (.bool (zgc (rdP dAid x0)),false,[wP eAid dAid x0])
 | _=>none
theorem yg5:OkD Tryz.prog 132 D_zgc:=by unfold D_zgc;exact dk N132.den
def zce  : (List (List UInt8)):=
 ([[110,111,110,101],[108,101,102,116],[114,105,103,104,116],[110,111,114,116,104],[101,97,115,116],[115,111,117,116,104],[119,101,115,116],[100,97,110,103,101,114],[115,97,102,101],[115,112,101,99,105,97,108]]:List (List UInt8))
namespace N246
theorem DD:DOk Tryz.prog (Go.Ab.DD []):=yc _
theorem lx {p:Prop} (h:p:=by(exact lxx);first|done|fail):p:=h
theorem den   : Den Tryz.prog 246 [] (ownL 9 1 eS (zce)):=by
 generalize hR:zce=r;unfold zce at hR;refine di Tryz.func246 Tryz.ntmps246 Tryz.results246 ?_;intro c hL hc hk;clear hL;simp only[pars,Nat.zero_add];refine rS ?_;exact retR
end N246
def D_zce : DF
 | []=>some (ownL 9 1 eS zce,false,[])
 | _=>none
def Dz_zce : DF
 | []=>some (ownL 9 1 eS zce,true,[])
 | _=>none
theorem yy5:OkD Tryz.prog 246 D_zce:=by unfold D_zce;exact dk N246.den
theorem yk3:OkD Tryz.prog 246 Dz_zce:=by unfold Dz_zce;exact dk N246.den
def y6u (a0:l00Src) (q2:l00Src) (q8:l00Src) (q10:l00Src) (s1:Int×Int×l00Src×List Sector):Except (Sum ((List Sector)×l00Src) (Int×Int×l00Src×List Sector)) (Int×Int×l00Src×List Sector):=
 (bif decide (0<s1.2.1)then(bnd ((za s1.2.2.1 70).2) fun q20=>(bif (decide ((IntKind.wrap .i64 (((za q2 60).1)+360))<(IntKind.wrap .i64 (s1.1+(IntKind.wrap .i64 (((za s1.2.2.1 70).1)+1))))) || decide (359<s1.1))then .error (.inr (s1.1,s1.2.1,q20,s1.2.2.2))else(bnd ((zx q20 [[87],[82],[71],[89]]).2) fun q22=>(bnd ((zn q22 2).2) fun q24=>(bif ((zn q22 2).1)then(bnd ((za q24 40).2) fun q26=>.ok (IntKind.wrap .i64 ((IntKind.wrap .i64 (s1.1+(IntKind.wrap .i64 (((za s1.2.2.1 70).1)+1))))+((za q24 40).1)),IntKind.wrap .i64 (s1.2.1-1),q26,s1.2.2.2++[{ From:=s1.1,To:=(IntKind.wrap .i64 (s1.1+(IntKind.wrap .i64 (((za s1.2.2.1 70).1)+1)))).tmod 360,Color:=((zx q20 [[87],[82],[71],[89]]).1):Sector }]))else .ok (IntKind.wrap .i64 (s1.1+(IntKind.wrap .i64 (((za s1.2.2.1 70).1)+1))),IntKind.wrap .i64 (s1.2.1-1),q24,s1.2.2.2++[{ From:=s1.1,To:=(IntKind.wrap .i64 (s1.1+(IntKind.wrap .i64 (((za s1.2.2.1 70).1)+1)))).tmod 360,Color:=((zx q20 [[87],[82],[71],[89]]).1):Sector }]))))))else .error (.inr (s1.1,s1.2.1,s1.2.2.1,s1.2.2.2)))
def zy (a0:l00Src):(List Sector)×l00Src:=
 (bnd ((za a0 6).2) fun q2=>(bif (((za a0 6).1) == 0)then(([]:List Sector),q2)else(bif (((za a0 6).1) == 1)then(bnd ((za q2 360).2) fun q4=>(bnd ((zx q4 [[87],[82],[71],[89]]).2) fun q6=>([{ From:=((za q2 360).1),To:=((za q2 360).1),Color:=((zx q4 [[87],[82],[71],[89]]).1):Sector }],q6)))else(bnd ((za q2 60).2) fun q8=>(bnd ((za q8 5).2) fun q10=>(match yab (y6u a0 q2 q8 q10) ((((IntKind.wrap .i64 (((za q8 5).1)+1))).toNat)+1) (((za q2 60).1),IntKind.wrap .i64 (((za q8 5).1)+1),q10,([]:List Sector))with|.error (.inl e)=>e|.error (.inr s1)=>(s1.2.2.2,s1.2.2.1)|.ok _=>default))))))
namespace N88
theorem DD:DOk Tryz.prog (Go.Ab.DD [(38,dM [true,false] D_za),(42,dM [true,false] D_zn),(83,dM [true,true] D_zx)]):=ya ylf.e <| ya y3l.e <| ya ydw.e <| yc _
abbrev dn:=cj @D_za.eq_1 <| cj @D_zn.eq_1 <| @D_zx.eq_1
theorem o1 {p:Prop} (h:p:=by(first|(refine SrcOk.mono (by repeat' first|assumption|exact SrcOk.next ‹_› | apply SrcOk.next|apply SrcOk.pick|apply SrcOk.one|apply SrcOk.among|apply SrcOk.text|apply SrcOk.colors|apply SrcOk.point|apply SrcOk.chr|apply SrcOk.sectors|apply SrcOk.aid|apply SrcOk.aids|apply SrcOk.notice|omega) (by omega))|(exact SrcOk.mono hW1.2.2.1 (by omega)));first|done|fail):p:=h
theorem o2 {p:Prop} (h:p:=by(first|((repeat' with_reducible apply And.intro)<;>first|(simp only[List.length_append,List.length_singleton];(first|done|fail))|(rw[IntKind.wrap_i64];omega)|(intro j hj;by_cases hji:j<s1.2.2.2.length;(focus(simp only[yik hji,yst hji,cond_true];first|(first|done|fail)|with_reducible rfl));(have e0:j-s1.2.2.2.length=0:=by omega);(simp only[ypk hji hj,ygu hji,cond_false,e0,elt,yz,yeb];first|(first|done|fail)|with_reducible rfl))|decide));first|done|fail):p:=h
theorem lx {p:Prop} (h:p:=by(exact lxx);first|done|fail):p:=h
set_option maxHeartbeats 2000000 in
set_option maxRecDepth 20000 in
theorem den (a0:l00Src) (hp0:SrcOk 600000 a0):DenM Tryz.prog 88 [.op (yt a0)] (ownL 97 3 yl ((zy a0).1)) [(.op (yt ((zy a0).2)))]:=by
 generalize hR:zy a0=r;unfold zy at hR;refine dj (gb:=[true]) Tryz.func88 Tryz.ntmps88 Tryz.results88 ?_;intro c hL hc hk;obtain⟨hL0,_⟩:=hL;have hw0:bwl00Src a0:=ykb a0 hL0;clear hL0;simp only[adEL,adE,adRL,adR,ownL,encL,sv,List.nil_append,List.append_nil,List.cons_append,List.length_cons,List.length_nil,pars,Nat.zero_add,Nat.reduceAdd]at hk ⊢;iterate 3 refine rS ?_
 generalize hq2:(za a0 6).2=q2 at hR ⊢;replace hR:=bn hR;have hS_q2:SrcOk (600002) q2:=by rw[<- hq2];exact SrcOk.pick hp0 (by omega)
 refine rS ?_;refine yb ?_ ?_<;>intro hb
 ·replace hR:=ct hR
  exact retR
 ·replace hR:=cf hR
  refine rS ?_;refine yb ?_ ?_<;>intro hb
  ·replace hR:=ct hR
   refine rS ?_;generalize hq4:(za q2 360).2=q4 at hR ⊢;replace hR:=bn hR;have hS_q4:SrcOk (600004) q4:=by rw[<- hq4];exact SrcOk.pick hS_q2 (by omega)
   refine rS ?_;generalize hq6:(zx q4 [[87],[82],[71],[89]]).2=q6 at hR ⊢;replace hR:=bn hR;have hS_q6:SrcOk (600006) q6:=by rw[<- hq6];exact SrcOk.text hS_q4 (by omega)
   exact retE
  ·replace hR:=cf hR
   refine rS ?_;generalize hq8:(za q2 60).2=q8 at hR ⊢;replace hR:=bn hR;have hS_q8:SrcOk (600004) q8:=by rw[<- hq8];exact SrcOk.pick hS_q2 (by omega)
   iterate 2 refine rS ?_
   generalize hq10:(za q8 5).2=q10 at hR ⊢;replace hR:=bn hR;have hS_q10:SrcOk (600006) q10:=by rw[<- hq10];exact SrcOk.pick hS_q8 (by omega)
   refine AWP.block ?_;generalize hz1:yab (y6u a0 q2 q8 q10) ((((IntKind.wrap .i64 (((za q8 5).1)+1))).toNat)+1) (((za q2 60).1),IntKind.wrap .i64 (((za q8 5).1)+1),q10,([]:List Sector))=z1 at hR;refine AWP.whileW (y6u a0 q2 q8 q10) (fun s1=>⟨[(0,.ptr 0 0),(3,.ref 1 3 0 s1.2.2.2.length),(5,.int .i64 s1.1),(6,.int .i64 ((za q2 60).1)),(7,.int .i64 s1.2.1)],[.box [encL 1 eIu8 s1.2.2.1.code,.int .i64 s1.2.2.1.at_,.int .u64 s1.2.2.1.seed],.arr 97 3 s1.2.2.2.length (fun j=>yl (s1.2.2.2.getD j default))]⟩) (fun s1=>0<=s1.2.1/\s1.2.1<=5/\SrcOk (600040+20 * (5-s1.2.1)) s1.2.2.1/\s1.2.2.2.length<=(5-s1.2.1).toNat) (fun s1=>(s1.2.1).toNat) ((((IntKind.wrap .i64 (((za q8 5).1)+1))).toNat)+1) (((za q2 60).1),IntKind.wrap .i64 (((za q8 5).1)+1),q10,([]:List Sector)) [0,1] hz1 m0 (by(have h2:=yn 5 hS_q8 (by omega);have h3:=h2.2 (by omega);have hwr:IntKind.wrap .i64 (((za q8 5).1)+1)=((za q8 5).1)+1:=(by rw[IntKind.wrap_i64];omega);simp only[hwr];exact⟨by omega,by omega,SrcOk.mono (by assumption) (by omega),by simp⟩)) sm ?_;clear hz1;intro s1 k1 hW1 hm1 hz1;simp only[y6u]at hz1;refine rS ?_;refine yb ?_ ?_<;>intro hb
   ·simp only[hb,cond_true]at hz1
    refine rS ?_;generalize hq20:(za s1.2.2.1 70).2=q20 at hz1 ⊢;rw[bndv q20]at hz1;have hS_q20:SrcOk (600040+20 * (5-s1.2.1)+2) q20:=by rw[<- hq20];exact SrcOk.pick hW1.2.2.1 (by omega)
    refine rS ?_;refine yb ?_ ?_<;>intro hb
    ·simp only[hb,cond_true]at hz1
     refine AWP.exit ?_;refine ybk rfl ?_;refine yf ?_;subst hz1;dsimp only at hR;exact retR
    ·simp only[hb,cond_false]at hz1
     iterate 2 refine rS ?_
     generalize hq22:(zx q20 [[87],[82],[71],[89]]).2=q22 at hz1 ⊢;rw[bndv q22]at hz1;have hS_q22:SrcOk (600040+20 * (5-s1.2.1)+2+2) q22:=by rw[<- hq22];exact SrcOk.text hS_q20 (by omega)
     iterate 3 refine rS ?_
     generalize hq24:(zn q22 2).2=q24 at hz1 ⊢;rw[bndv q24]at hz1;have hS_q24:SrcOk (600040+20 * (5-s1.2.1)+2+2+2) q24:=by rw[<- hq24];exact SrcOk.one hS_q22 (by omega)
     refine yb ?_ ?_<;>intro hb
     ·simp only[hb,cond_true]at hz1
      refine rS ?_;generalize hq26:(za q24 40).2=q26 at hz1 ⊢;rw[bndv q26]at hz1;have hS_q26:SrcOk (600040+20 * (5-s1.2.1)+2+2+2+2) q26:=by rw[<- hq26];exact SrcOk.pick hS_q24 (by omega)
      refine rS ?_;clear hR;exact⟨_,[0,5],by(have hpos:0<s1.2.1:=of_decide_eq_true (by assumption);have hwr:IntKind.wrap .i64 (s1.2.1-1)=s1.2.1-1:=(by rw[IntKind.wrap_i64];omega);(try dsimp only);rw[hwr];omega),by(have hpos:0<s1.2.1:=of_decide_eq_true (by assumption);have hwr:IntKind.wrap .i64 (s1.2.1-1)=s1.2.1-1:=(by rw[IntKind.wrap_i64];omega);(try dsimp only);rw[hwr];have hG:=hW1.2.2.2;exact⟨by omega,by omega,SrcOk.mono (by assumption) (by omega),by simp only[List.length_append,List.length_cons,List.length_nil];omega⟩),hz1,sm⟩
     ·simp only[hb,cond_false]at hz1
      refine rS ?_;clear hR;exact⟨_,[0,5],by(have hpos:0<s1.2.1:=of_decide_eq_true (by assumption);have hwr:IntKind.wrap .i64 (s1.2.1-1)=s1.2.1-1:=(by rw[IntKind.wrap_i64];omega);(try dsimp only);rw[hwr];omega),by(have hpos:0<s1.2.1:=of_decide_eq_true (by assumption);have hwr:IntKind.wrap .i64 (s1.2.1-1)=s1.2.1-1:=(by rw[IntKind.wrap_i64];omega);(try dsimp only);rw[hwr];have hG:=hW1.2.2.2;exact⟨by omega,by omega,SrcOk.mono (by assumption) (by omega),by simp only[List.length_append,List.length_cons,List.length_nil];omega⟩),hz1,sm⟩
   ·simp only[hb,cond_false]at hz1
    refine AWP.exit ?_;refine yf ?_;subst hz1;dsimp only at hR;exact retR
end N88
def D_zy : List AV -> Option (AV × List AV × List Prop)
 | [x0]=>some (ownL 97 3 yl ((zy (rdQ yx x0)).1),[(.op (yt ((zy (rdQ yx x0)).2)))],[wQ yt yx x0,SrcOk 600000 (rdQ yx x0)])
 | _=>none
theorem y4bb:OkM Tryz.prog 88 D_zy:=by unfold D_zy;exact dm N88.den
def zyc  : (List (List UInt8)):=
 ([[],[70],[79,99],[73,115,111],[70,108],[76,70,108],[81],[86,81],[77,111]]:List (List UInt8))
namespace N192
theorem DD:DOk Tryz.prog (Go.Ab.DD []):=yc _
theorem lx {p:Prop} (h:p:=by(exact lxx);first|done|fail):p:=h
theorem den   : Den Tryz.prog 192 [] (ownL 9 1 eS (zyc)):=by
 generalize hR:zyc=r;unfold zyc at hR;refine di Tryz.func192 Tryz.ntmps192 Tryz.results192 ?_;intro c hL hc hk;clear hL;simp only[pars,Nat.zero_add];refine rS ?_;exact retR
end N192
def D_zyc : DF
 | []=>some (ownL 9 1 eS zyc,false,[])
 | _=>none
def Dz_zyc : DF
 | []=>some (ownL 9 1 eS zyc,true,[])
 | _=>none
theorem yc7:OkD Tryz.prog 192 D_zyc:=by unfold D_zyc;exact dk N192.den
theorem y33:OkD Tryz.prog 192 Dz_zyc:=by unfold Dz_zyc;exact dk N192.den
def yyr (a0:Int) (s1:Int×List Int):Except (Sum ((List UInt8)) (Int×List Int)) (Int×List Int):=
 (bif (s1.1 != 0)then(bif decide ((s1.1.tmod 10)<0)then .ok (IntKind.wrap .i64 (s1.1.tdiv 10),s1.2++([IntKind.wrap .u8 (IntKind.wrap .i64 (48+(IntKind.wrap .i64 (0-(s1.1.tmod 10)))))]:List Int))else .ok (IntKind.wrap .i64 (s1.1.tdiv 10),s1.2++([IntKind.wrap .u8 (IntKind.wrap .i64 (48+(s1.1.tmod 10)))]:List Int)))else .error (.inr (s1.1,s1.2)))
def y5v (a0:Int) (s1:Int×List Int) (s2:Int×List Int):Except (Sum ((List UInt8)) (Int×List Int)) (Int×List Int):=
 (bif decide (0<=s2.1)then .ok (IntKind.wrap .i64 (s2.1-1),s2.2++([((s1.2++([45]:List Int)).getD ((s2.1).toNat) default)]:List Int))else .error (.inr (s2.1,s2.2)))
def yqv (a0:Int) (s1:Int×List Int) (s3:Int×List Int):Except (Sum ((List UInt8)) (Int×List Int)) (Int×List Int):=
 (bif decide (0<=s3.1)then .ok (IntKind.wrap .i64 (s3.1-1),s3.2++([(s1.2.getD ((s3.1).toNat) default)]:List Int))else .error (.inr (s3.1,s3.2)))
def zf (a0:Int):(List UInt8):=
 (bif (a0 == 0)then[48]else(match yab (yyr a0) (((a0).natAbs)+1) (a0,([]:List Int))with|.error (.inl e)=>e|.error (.inr s1)=>(bif decide (a0<0)then(match yab (y5v a0 s1) ((((IntKind.wrap .i64 ((s1.2.length+1:Int)-1))+1).toNat)+1) (IntKind.wrap .i64 ((s1.2.length+1:Int)-1),([]:List Int))with|.error (.inl e)=>e|.error (.inr s2)=>(s2.2.map fun z=>UInt8.ofNat z.toNat)|.ok _=>default)else(match yab (yqv a0 s1) ((((IntKind.wrap .i64 ((s1.2.length:Int)-1))+1).toNat)+1) (IntKind.wrap .i64 ((s1.2.length:Int)-1),([]:List Int))with|.error (.inl e)=>e|.error (.inr s3)=>(s3.2.map fun z=>UInt8.ofNat z.toNat)|.ok _=>default))|.ok _=>default))
namespace N78
theorem DD:DOk Tryz.prog (Go.Ab.DD []):=yc _
theorem den (a0:Int) (hp0 : -1000000000000<=a0) (hp1:a0<=1000000000000):Den Tryz.prog 78 [.int .i64 a0] (.str (zf a0)):=by
 generalize hR:zf a0=r;unfold zf at hR;refine di Tryz.func78 Tryz.ntmps78 Tryz.results78 ?_;intro c hL hc hk;clear hL;simp only[pars,Nat.zero_add];iterate 2 refine rS ?_
 refine yb ?_ ?_<;>intro hb
 ·replace hR:=ct hR
  exact retR
 ·replace hR:=cf hR
  iterate 2 refine rS ?_
  refine AWP.block ?_;generalize hz1:yab (yyr a0) (((a0).natAbs)+1) (a0,([]:List Int))=z1 at hR;refine AWP.whileW (yyr a0) (fun s1=>⟨[(0,.int .i64 a0),(3,.ref 0 1 0 s1.2.length),(4,.int .i64 s1.1)],[.arr 5 1 s1.2.length (fun j=>eIu8 (s1.2.getD j default))]⟩) (fun s1 => -1000000000000<=s1.1/\s1.1<=1000000000000/\s1.2.length+(s1.1).natAbs<=1000000000000) (fun s1=>(s1.1).natAbs) (((a0).natAbs)+1) (a0,([]:List Int)) [0] hz1 m0 wt sm ?_;clear hz1;intro s1 k1 hW1 hm1 hz1;simp only[yyr]at hz1;refine rS ?_;refine yb ?_ ?_<;>intro hb
  ·simp only[hb,cond_true]at hz1
   iterate 2 refine rS ?_
   refine yb ?_ ?_<;>intro hb
   ·simp only[hb,cond_true]at hz1
    iterate 3 refine rS ?_
    exact⟨_,[2],by(have h10:=ytm s1.1;simp only[ob,ln,ol]at *;omega),by(have h10:=ytm s1.1;refine⟨?_,?_,?_⟩<;>simp only[ob,ln,ol]at * <;> omega),hz1,sm⟩
   ·simp only[hb,cond_false]at hz1
    iterate 2 refine rS ?_
    exact⟨_,[2],by(have h10:=ytm s1.1;simp only[ob,ln,ol]at *;omega),by(have h10:=ytm s1.1;refine⟨?_,?_,?_⟩<;>simp only[ob,ln,ol]at * <;> omega),hz1,sm⟩
  ·simp only[hb,cond_false]at hz1
   refine AWP.exit ?_;refine yf ?_;subst hz1;dsimp only at hR;refine rS ?_;refine yb ?_ ?_<;>intro hb
   ·replace hR:=ct hR
    iterate 3 refine rS ?_
    refine AWP.block ?_;generalize hz2:yab (y5v a0 (s1.1,s1.2)) ((((IntKind.wrap .i64 ((s1.2.length+1:Int)-1))+1).toNat)+1) (IntKind.wrap .i64 ((s1.2.length+1:Int)-1),([]:List Int))=z2 at hR;refine AWP.whileW (y5v a0 (s1.1,s1.2)) (fun s2=>⟨[(3,.ref 0 1 0 (s1.2.length+1)),(6,.ref 1 1 0 s2.2.length),(7,.int .i64 s2.1)],[.arr 5 1 (s1.2++([45]:List Int)).length (fun j=>eIu8 ((s1.2++([45]:List Int)).getD j default)),.arr 5 1 s2.2.length (fun j=>eIu8 (s2.2.getD j default))]⟩) (fun s2 => -1<=s2.1/\s2.1<=s1.2.length/\s2.1<=1000000000000/\s2.2.length+(s2.1+1).toNat<=1000000000001) (fun s2=>(s2.1+1).toNat) ((((IntKind.wrap .i64 ((s1.2.length+1:Int)-1))+1).toNat)+1) (IntKind.wrap .i64 ((s1.2.length+1:Int)-1),([]:List Int)) [2,3] hz2 m0 wt sm ?_;clear hz2;intro s2 k2 hW2 hm2 hz2;simp only[y5v]at hz2;refine rS ?_;refine yb ?_ ?_<;>intro hb
    ·simp only[hb,cond_true]at hz2
     iterate 2 refine rS ?_
     exact⟨_,[0,3],ms,wt,hz2,sm⟩
    ·simp only[hb,cond_false]at hz2
     refine AWP.exit ?_;refine yf ?_;subst hz2;dsimp only at hR;exact retR
   ·replace hR:=cf hR
    iterate 2 refine rS ?_
    refine AWP.block ?_;generalize hz3:yab (yqv a0 (s1.1,s1.2)) ((((IntKind.wrap .i64 ((s1.2.length:Int)-1))+1).toNat)+1) (IntKind.wrap .i64 ((s1.2.length:Int)-1),([]:List Int))=z3 at hR;refine AWP.whileW (yqv a0 (s1.1,s1.2)) (fun s3=>⟨[(3,.ref 0 1 0 s1.2.length),(6,.ref 1 1 0 s3.2.length),(7,.int .i64 s3.1)],[.arr 5 1 s1.2.length (fun j=>eIu8 (s1.2.getD j default)),.arr 5 1 s3.2.length (fun j=>eIu8 (s3.2.getD j default))]⟩) (fun s3 => -1<=s3.1/\s3.1<s1.2.length/\s3.1<=1000000000000/\s3.2.length+(s3.1+1).toNat<=1000000000001) (fun s3=>(s3.1+1).toNat) ((((IntKind.wrap .i64 ((s1.2.length:Int)-1))+1).toNat)+1) (IntKind.wrap .i64 ((s1.2.length:Int)-1),([]:List Int)) [0,1] hz3 m0 wt sm ?_;clear hz3;intro s3 k3 hW3 hm3 hz3;simp only[yqv]at hz3;refine rS ?_;refine yb ?_ ?_<;>intro hb
    ·simp only[hb,cond_true]at hz3
     iterate 2 refine rS ?_
     exact⟨_,[0,3],ms,wt,hz3,sm⟩
    ·simp only[hb,cond_false]at hz3
     refine AWP.exit ?_;refine yf ?_;subst hz3;dsimp only at hR;exact retR
end N78
def D_zf : DF
 | [x0]=>some (.str (zf (rdI x0)),false,[wI .i64 x0,-1000000000000<=(rdI x0),(rdI x0)<=1000000000000])
 | _=>none
theorem yrf:OkD Tryz.prog 78 D_zf:=by unfold D_zf;exact dk N78.den
def zch (a0:Int):Bool:=
 ((((a0.tmod 4) == 0) && ((a0.tmod 100) != 0)) || ((a0.tmod 400) == 0))
namespace N245
theorem DD:DOk Tryz.prog (Go.Ab.DD []):=yc _
theorem den (a0:Int)  : Den Tryz.prog 245 [.int .i64 a0] (.bool (zch a0)):=by
 generalize hR:zch a0=r;unfold zch at hR;refine di Tryz.func245 Tryz.ntmps245 Tryz.results245 ?_;intro c hL hc hk;clear hL;simp only[pars,Nat.zero_add];refine rS ?_;exact retR
end N245
def D_zch : DF
 | [x0]=>some (.bool (zch (rdI x0)),false,[wI .i64 x0])
 | _=>none
theorem y84:OkD Tryz.prog 245 D_zch:=by unfold D_zch;exact dk N245.den
def zld (a0:Int) (a1:Int):Int:=
 (bif (a1 == 2)then(bif (zch a0)then 29 else 28)else(bif (a1 == 4)then 30 else(bif (a1 == 6)then 30 else(bif (a1 == 9)then 30 else(bif (a1 == 11)then 30 else 31)))))
namespace N191
theorem DD:DOk Tryz.prog (Go.Ab.DD [(245,dP D_zch)]):=ya y84.e <| yc _
abbrev dn:=@D_zch.eq_1
theorem den (a0:Int) (a1:Int)  : Den Tryz.prog 191 [.int .i64 a0,.int .i64 a1] (.int .i64 (zld a0 a1)):=by
 generalize hR:zld a0 a1=r;unfold zld at hR;refine di Tryz.func191 Tryz.ntmps191 Tryz.results191 ?_;intro c hL hc hk;clear hL;simp only[pars,Nat.zero_add];iterate 3 refine rS ?_
 refine yb ?_ ?_<;>intro hb
 ·replace hR:=ct hR
  refine rS ?_;refine yb ?_ ?_<;>intro hb
  ·replace hR:=ct hR
   exact retR
  ·replace hR:=cf hR
   exact retR
 ·replace hR:=cf hR
  refine rS ?_;refine yb ?_ ?_<;>intro hb
  ·replace hR:=ct hR
   refine AWP.skip ?_;refine yb ?_ ?_<;>intro hb
   ·exact retR
   ·exfalso;simp_all
  ·replace hR:=cf hR
   refine rS ?_;refine yb ?_ ?_<;>intro hb
   ·replace hR:=ct hR
    refine AWP.skip ?_;refine yb ?_ ?_<;>intro hb
    ·exact retR
    ·exfalso;simp_all
   ·replace hR:=cf hR
    refine rS ?_;refine yb ?_ ?_<;>intro hb
    ·replace hR:=ct hR
     refine AWP.skip ?_;refine yb ?_ ?_<;>intro hb
     ·exact retR
     ·exfalso;simp_all
    ·replace hR:=cf hR
     refine rS ?_;refine yb ?_ ?_<;>intro hb
     ·replace hR:=ct hR
      exact retR
     ·replace hR:=cf hR
      exact retR
end N191
def D_zld : DF
 | [x0,x1]=>some (.int .i64 (zld (rdI x0) (rdI x1)),false,[wI .i64 x0,wI .i64 x1])
 | _=>none
theorem yw8:OkD Tryz.prog 191 D_zld:=by unfold D_zld;exact dk N191.den
theorem yu1 (y m:Int):28<=zld y m/\zld y m<=31:=by
 unfold zld;cases zch y<;>cases(m == 2)<;>cases(m == 4)<;>cases(m == 6)<;>cases(m == 9)<;>cases(m == 11)<;>simp
theorem ypx {y m:Int} (h1:1<=m) (h2:m<=12):zld y m=mdD (yib y) m.toNat:=by
 show zld y m=mdD (zch y) m.toNat;unfold zld;rcases yqf h1 h2 with rfl|rfl|rfl|rfl|rfl|rfl|rfl|rfl|rfl|rfl|rfl|rfl<;>cases zch y<;>rfl
def ycn (a0:(List UInt8)) (a1:Int) (i1:Nat) (s1:Int) (i2:Nat) (s2:Int):Except (Int) (Int):=
 (bif decide (65535<(IntKind.wrap .i64 (s2 * 2 ^ (Min.min 1 (IntKind.bits .i64)))))then .ok (IntKind.wrap .i64 (BitVec.ofInt (IntKind.bits .i64) (IntKind.wrap .i64 (BitVec.ofInt (IntKind.bits .i64) (IntKind.wrap .i64 (s2 * 2 ^ (Min.min 1 (IntKind.bits .i64)))) &&& BitVec.ofInt (IntKind.bits .i64) 65535).toNat) ^^^ BitVec.ofInt (IntKind.bits .i64) 4129).toNat)else .ok (IntKind.wrap .i64 (s2 * 2 ^ (Min.min 1 (IntKind.bits .i64)))))
def yco (a0:(List UInt8)) (a1:Int) (i1:Nat) (s1:Int):Except (Int) (Int):=
 (match ye (ycn a0 a1 i1 s1) (8-0) 0 (IntKind.wrap .i64 (BitVec.ofInt (IntKind.bits .i64) s1 ^^^ BitVec.ofInt (IntKind.bits .i64) (IntKind.wrap .i64 ((IntKind.wrap .i64 ((a0.getD i1 0).toNat:Int)) * 2 ^ (Min.min 8 (IntKind.bits .i64))))).toNat)with|.error e=>.error e|.ok s2=>.ok s2)
def zhc (a0:(List UInt8)) (a1:Int):Int:=
 (match ye (yco a0 a1) (a0.length-0) 0 a1 with|.error e=>e|.ok s1=>s1)
namespace N81
theorem DD:DOk Tryz.prog (Go.Ab.DD []):=yc _
theorem den (a0:(List UInt8)) (a1:Int)  : Den Tryz.prog 81 [.str a0,.int .i64 a1] (.int .i64 (zhc a0 a1)):=by
 generalize hR:zhc a0 a1=r;unfold zhc at hR;refine di Tryz.func81 Tryz.ntmps81 Tryz.results81 ?_;intro c hL hc hk;obtain⟨hL0,hL1,_⟩:=hL;have hw0:=lwS hL0;clear hL0 hL1;simp only[pars,Nat.zero_add];iterate 2 refine rS ?_
 refine AWP.block ?_;generalize hz1:ye (yco a0 a1) (a0.length-0) 0 a1=z1 at hR;refine AWP.range (yco a0 a1) (fun i1 s1=>⟨[(0,.str a0),(1,.int .i64 s1),(5,.int .i64 (i1:Int))],[]⟩) (fun i1 s1=>True) (a0.length) 0 a1 [] hz1 ot wt sm ?_;clear hz1;intro i1 s1 hi1 hW1 hz1;refine rS ?_;refine yb ?_ ?_<;>intro hb
 ·have hlt1:i1<a0.length:=ot
  rw[yi hlt1]at hz1;simp only[yco]at hz1;iterate 2 refine rS ?_
  refine AWP.block ?_;generalize hz2:ye (ycn a0 a1 i1 s1) (8-0) 0 (IntKind.wrap .i64 (BitVec.ofInt (IntKind.bits .i64) s1 ^^^ BitVec.ofInt (IntKind.bits .i64) (IntKind.wrap .i64 ((IntKind.wrap .i64 ((a0.getD i1 0).toNat:Int)) * 2 ^ (Min.min 8 (IntKind.bits .i64))))).toNat)=z2 at hz1;refine AWP.range (ycn a0 a1 i1 s1) (fun i2 s2=>⟨[(0,.str a0),(1,.int .i64 s2),(5,.int .i64 (i1:Int)),(6,.int .i64 (i2:Int))],[]⟩) (fun i2 s2=>True) (8) 0 (IntKind.wrap .i64 (BitVec.ofInt (IntKind.bits .i64) s1 ^^^ BitVec.ofInt (IntKind.bits .i64) (IntKind.wrap .i64 ((IntKind.wrap .i64 ((a0.getD i1 0).toNat:Int)) * 2 ^ (Min.min 8 (IntKind.bits .i64))))).toNat) [] hz2 ot wt sm ?_;clear hz2;intro i2 s2 hi2 hW2 hz2;refine rS ?_;refine yb ?_ ?_<;>intro hb
  ·have hlt2:i2<8:=ot
   rw[yi hlt2]at hz2;simp only[ycn]at hz2;iterate 2 refine rS ?_
   refine yb ?_ ?_<;>intro hb
   ·simp only[hb,cond_true]at hz2
    iterate 2 refine rS ?_
    exact⟨_,[],hlt2,wt,hz2,sm⟩
   ·simp only[hb,cond_false]at hz2
    refine rS ?_;exact⟨_,[],hlt2,wt,hz2,sm⟩
  ·obtain rfl:i2=8:=ot
   rw[ybb (Nat.le_refl _)]at hz2;subst hz2;dsimp only at hz1;refine AWP.exit ?_;refine yf ?_;refine rS ?_;exact⟨_,[],hlt1,wt,hz1,sm⟩
 ·obtain rfl:i1=a0.length:=ot
  exact retX
end N81
def D_zhc : DF
 | [x0,x1]=>some (.int .i64 (zhc (rdS x0) (rdI x1)),false,[wS x0,wI .i64 x1])
 | _=>none
theorem ye7:OkD Tryz.prog 81 D_zhc:=by unfold D_zhc;exact dk N81.den
def zlh (a0:Int):Bool:=
 (zj a0 0 99999)
namespace N76
theorem DD:DOk Tryz.prog (Go.Ab.DD [(75,dP D_zj)]):=ya yyf.e <| yc _
abbrev dn:=@D_zj.eq_1
abbrev ol:=@zj.eq_1
theorem den (a0:Int)  : Den Tryz.prog 76 [.int .i64 a0] (.bool (zlh a0)):=by
 generalize hR:zlh a0=r;unfold zlh at hR;refine di Tryz.func76 Tryz.ntmps76 Tryz.results76 ?_;intro c hL hc hk;clear hL;simp only[pars,Nat.zero_add];refine rS ?_;exact retR
end N76
def D_zlh : DF
 | [x0]=>some (.bool (zlh (rdI x0)),false,[wI .i64 x0])
 | _=>none
theorem yx4:OkD Tryz.prog 76 D_zlh:=by unfold D_zlh;exact dk N76.den
def yso (a0:Int) (s1:Int×Int×Int):Except (Sum ((Int×Int×Int)) (Int×Int×Int)) (Int×Int×Int):=
 (bif decide ((zld s1.2.1 s1.2.2)<=s1.1)then(bif decide (12<(IntKind.wrap .i64 (s1.2.2+1)))then .ok (IntKind.wrap .i64 (s1.1-(zld s1.2.1 s1.2.2)),IntKind.wrap .i64 (s1.2.1+1),1)else .ok (IntKind.wrap .i64 (s1.1-(zld s1.2.1 s1.2.2)),s1.2.1,IntKind.wrap .i64 (s1.2.2+1)))else .error (.inr (s1.1,s1.2.1,s1.2.2)))
def zlb (a0:Int):(Int×Int×Int):=
 (match yab (yso a0) (((a0).toNat)+1) (a0,2000,1)with|.error (.inl e)=>e|.error (.inr s1)=>(s1.2.1,s1.2.2,IntKind.wrap .i64 (s1.1+1))|.ok _=>default)
namespace N130
theorem DD:DOk Tryz.prog (Go.Ab.DD [(191,dP D_zld)]):=ya yw8.e <| yc _
abbrev dn:=@D_zld.eq_1
theorem wq0 {p:Prop} (h:p:=by(have h9:=yu1 s1.2.1 s1.2.2;simp only[ob,ln,ol]at *;omega);first|done|fail):p:=h
theorem den (a0:Int) (hp0:0<=a0) (hp1:a0<=99999):Den Tryz.prog 130 [.int .i64 a0] (.tup [.int .i64 ((zlb a0).1),.int .i64 ((zlb a0).2.1),.int .i64 ((zlb a0).2.2)]):=by
 generalize hR:zlb a0=r;unfold zlb at hR;refine di Tryz.func130 Tryz.ntmps130 Tryz.results130 ?_;intro c hL hc hk;clear hL;simp only[pars,Nat.zero_add];iterate 3 refine rS ?_
 refine AWP.seq ?_;refine AWP.block ?_;generalize hz1:yab (yso a0) (((a0).toNat)+1) (a0,2000,1)=z1 at hR;refine AWP.whileW (yso a0) (fun s1=>⟨[(0,.int .i64 s1.1),(5,.int .i64 s1.2.1),(6,.int .i64 s1.2.2)],[]⟩) (fun s1=>0<=s1.1/\2000<=s1.2.1/\1<=s1.2.2/\s1.2.2<=12/\s1.2.1-2000+s1.1<=a0) (fun s1=>(s1.1).toNat) (((a0).toNat)+1) (a0,2000,1) [] hz1 m0 wt sm ?_;clear hz1;intro s1 k1 hW1 hm1 hz1;simp only[yso]at hz1;refine rS ?_;refine yb ?_ ?_<;>intro hb
 ·simp only[hb,cond_true]at hz1
  iterate 3 refine rS ?_
  refine yb ?_ ?_<;>intro hb
  ·simp only[hb,cond_true]at hz1
   iterate 2 refine rS ?_
   exact⟨_,[],wq0,wq0,hz1,sm⟩
  ·simp only[hb,cond_false]at hz1
   refine AWP.skip ?_;exact⟨_,[],wq0,wq0,hz1,sm⟩
 ·simp only[hb,cond_false]at hz1
  refine AWP.exit ?_;refine yf ?_;subst hz1;dsimp only at hR;exact retR
end N130
def D_zlb : DF
 | [x0]=>some (.tup [.int .i64 ((zlb (rdI x0)).1),.int .i64 ((zlb (rdI x0)).2.1),.int .i64 ((zlb (rdI x0)).2.2)],false,[wI .i64 x0,0<=(rdI x0),(rdI x0)<=99999])
 | _=>none
theorem yc8:OkD Tryz.prog 130 D_zlb:=by unfold D_zlb;exact dk N130.den
theorem ynab (a:Int) (h1:0<=a) (h2:a<=99999):∃ y m d,zlb a=(y,m,d)/\ylm a y m d:=by
 have L1 := yni (body := yso a) (I := fun s => 0 <= s.1 /\ 2000 <= s.2.1 /\ 1 <= s.2.2 /\ s.2.2 <= 12 /\ ybD s.2.1 + mbD (yib s.2.1) s.2.2.toNat + s.1 = a)
  (Q:=fun r=>∃ s:Int×Int×Int,r=.inr s/\0<=s.1/\2000<=s.2.1/\1<=s.2.2/\s.2.2<=12/\ybD s.2.1+mbD (yib s.2.1) s.2.2.toNat+s.1=a/\s.1<zld s.2.1 s.2.2) (M:=fun s=>s.1.toNat) (by
   rintro⟨d,y,m⟩ ⟨i1,i2,i3,i4,i5⟩
   simp only[yso]at i1 i2 i3 i4 i5 ⊢;have hle:=ykn (y:=y) (by omega);have hnn:=ybj i2;have hge:=yu1 y m;have hm:=ypx (y:=y) i3 i4;by_cases hc:zld y m<=d
   ·simp only[hc,decide_true,cond_true]
    rw[yrc (n:=d-zld y m) (by omega) (by omega),yrc (n:=m+1) (by omega) (by omega),yrc (n:=y+1) (by omega) (by omega)];by_cases h12:12<m+1
    ·obtain rfl:m=12:=by omega
     have hn:=yrn y i2;have hl:=ym3 (yib y);simp only[h12,decide_true,cond_true];have e1:mbD (yib (y+1)) (1:Int).toNat=0:=yll _;have e12:(12:Int).toNat=12:=rfl;rw[e12]at i5 hm;refine⟨⟨by omega,by omega,by omega,by omega,?_⟩,by omega⟩;rw[e1];cases hl2:yib y<;>simp only[hl2,cond_true,cond_false]at * <;> omega
    ·have hn:=yvv (l:=yib y) i3 (by omega)
     simp only[h12,decide_false,cond_false];refine⟨⟨by omega,by omega,by omega,by omega,by omega⟩,by omega⟩
   ·simp only[hc,decide_false,cond_false]
    exact⟨_,rfl,i1,i2,i3,i4,i5,by show d<zld y m;omega⟩) (a.toNat+1) (a,2000,1) ⟨h1,by show(2000:Int)<=2000;omega,by show(1:Int)<=1;omega,by show(1:Int)<=12;omega,by
     show ybD 2000+(mbD (yib 2000) 1:Int)+a=a
     rw[yll];simp[ybD]⟩ (by show a.toNat<a.toNat+1;omega)
 obtain⟨r,e1,s,rfl,q1,q2,q3,q4,q5,q6⟩:=L1;have hnn:=ybj q2;have hge:=yu1 s.2.1 s.2.2;have hm:=ypx (y:=s.2.1) q3 q4;refine⟨s.2.1,s.2.2,s.1+1,?_,q2,q3,q4,by omega,by omega,by omega⟩;unfold zlb;rw[e1];simp only;rw[yrc (by omega) (by omega)]
theorem yn2 (a:Int) (h1:0<=a) (h2:a<=99999):2000<=(zlb a).1/\(zlb a).1<=2273/\1<=(zlb a).2.1/\(zlb a).2.1<=12/\1<=(zlb a).2.2/\(zlb a).2.2<=31:=by
 obtain⟨y,m,d,e,h⟩:=ynab a h1 h2;have hm:=y8n (l:=yib y) h.2.1 h.2.2.1;have hy:y<=2273:=ykn (by have:=h.2.2.2.2.2;have:=h.2.2.2.1;omega);rw[e];exact⟨h.1,hy,h.2.1,h.2.2.1,h.2.2.2.1,by show d<=31;have:=h.2.2.2.2.1;omega⟩
def yjp (a0:(List Aid)) (a1:(List Aid)) (i1:Nat) (s1:Unit):Except (Bool) (Unit):=
 (bif (!(zrc (a0.getD i1 default) (a1.getD i1 default)))then .error false else .ok ())
def zof (a0:(List Aid)) (a1:(List Aid)):Bool:=
 (bif ((a0.length:Int) != (a1.length:Int))then false else(match ye (yjp a0 a1) (a0.length-0) 0 ()with|.error e=>e|.ok s1=>true))
namespace N35
theorem DD:DOk Tryz.prog (Go.Ab.DD [(27,dP D_zrc)]):=ya y5p.e <| yc _
abbrev dn:=@D_zrc.eq_1
theorem den (a0:(List Aid)) (a1:(List Aid))  : Den Tryz.prog 35 [encL 16 eAid a0,encL 16 eAid a1] (.bool (zof a0 a1)):=by
 generalize hR:zof a0 a1=r;unfold zof at hR;refine di Tryz.func35 Tryz.ntmps35 Tryz.results35 ?_;intro c hL hc hk;obtain⟨hL0,hL1,_⟩:=hL;have hw0:=lwA hL0;have hw1:∀ v∈a0,bwAid v:=fun v hv=>yr v ((yj hL0).2 v hv)
 have hw2:=lwA hL1;have hw3:∀ v∈a1,bwAid v:=fun v hv=>yr v ((yj hL1).2 v hv)
 clear hL0 hL1;simp only[pars,Nat.zero_add];iterate 2 refine rS ?_
 refine yb ?_ ?_<;>intro hb
 ·replace hR:=ct hR
  exact retR
 ·replace hR:=cf hR
  refine rS ?_;refine AWP.block ?_;generalize hz1:ye (yjp a0 a1) (a0.length-0) 0 ()=z1 at hR;refine AWP.range (yjp a0 a1) (fun i1 s1=>⟨[(0,encL 16 eAid a0),(1,encL 16 eAid a1),(5,.int .i64 (i1:Int))],[]⟩) (fun i1 s1=>True) (a0.length) 0 () [] hz1 ot wt sm ?_;clear hz1;intro i1 s1 hi1 hW1 hz1;refine rS ?_;refine yb ?_ ?_<;>intro hb
  ·have hlt1:i1<a0.length:=ot
   rw[yi hlt1]at hz1;simp only[yjp]at hz1;refine rD 6 ?_;refine yb ?_ ?_<;>intro hb
   ·simp only[hb,cond_true]at hz1
    refine rS ?_;refine AWP.ret ?_;subst hz1;dsimp only at hR;subst hR;exact es
   ·simp only[hb,cond_false]at hz1
    refine rS ?_;exact⟨_,[],hlt1,wt,hz1,sm⟩
  ·obtain rfl:i1=a0.length:=ot
   exact retX
end N35
def D_zof : DF
 | [x0,x1]=>some (.bool (zof (rdL dAid x0) (rdL dAid x1)),false,[wL 16 eAid dAid x0,wL 16 eAid dAid x1])
 | _=>none
theorem yk6:OkD Tryz.prog 35 D_zof:=by unfold D_zof;exact dk N35.den
def zmh (a0:Edition) (a1:Edition):Bool:=
 (((a0.Number == a1.Number) && (a0.Day == a1.Day)) && (zof a0.Aids a1.Aids))
namespace N15
theorem DD:DOk Tryz.prog (Go.Ab.DD [(35,dP D_zof)]):=ya yk6.e <| yc _
abbrev dn:=@D_zof.eq_1
theorem den (a0:Edition) (a1:Edition)  : Den Tryz.prog 15 [.agg (ywb a0),.agg (ywb a1)] (.bool (zmh a0 a1)):=by
 generalize hR:zmh a0 a1=r;unfold zmh at hR;refine di Tryz.func15 Tryz.ntmps15 Tryz.results15 ?_;intro c hL hc hk;obtain⟨hL0,hL1,_⟩:=hL;have hw0:bwEdition a0:=ysc a0 hL0;have hw1:bwEdition a1:=ysc a1 hL1;clear hL0 hL1;simp only[pars,Nat.zero_add];refine rS ?_;exact retR
end N15
def D_zmh : DF
 | [x0,x1]=>some (.bool (zmh (rdG ygb x0) (rdG ygb x1)),false,[wG ywb ygb x0,wG ywb ygb x1])
 | _=>none
theorem yz6:OkD Tryz.prog 15 D_zmh:=by unfold D_zmh;exact dk N15.den
end Go.Ab
