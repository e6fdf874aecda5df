/- Walks and lemmas. No conditions. -/
import Derived.Test.YthmfknndfeepfaaGreatDoorEAk
set_option linter.unusedSectionVars false
set_option linter.unusedVariables false
set_option linter.unusedSimpArgs false
set_option maxHeartbeats 1000000
namespace Go.Ab
open Go Go.Proofs
def zqh (a0:Int):Bool:=
 (decide (48<=a0) && decide (a0<=57))
namespace N147
theorem DD:DOk Tryz.prog (Go.Ab.DD []):=yc _
theorem den (a0:Int)  : Den Tryz.prog 147 [.int .u8 a0] (.bool (zqh a0)):=by
 generalize hR:zqh a0=r;unfold zqh at hR;refine di Tryz.func147 Tryz.ntmps147 Tryz.results147 ?_;intro c hL hc hk;clear hL;simp only[pars,Nat.zero_add];refine rS ?_;exact retR
end N147
def D_zqh : DF
 | [x0]=>some (.bool (zqh (rdI x0)),false,[wI .u8 x0])
 | _=>none
theorem ys4:OkD Tryz.prog 147 D_zqh:=by unfold D_zqh;exact dk N147.den
def zzb (a0:Int) (a1:Int):Bool:=
 decide (a0<=a1)
namespace N45
theorem DD:DOk Tryz.prog (Go.Ab.DD []):=yc _
theorem den (a0:Int) (a1:Int)  : Den Tryz.prog 45 [.int .i64 a0,.int .i64 a1] (.bool (zzb a0 a1)):=by
 generalize hR:zzb a0 a1=r;unfold zzb at hR;refine di Tryz.func45 Tryz.ntmps45 Tryz.results45 ?_;intro c hL hc hk;clear hL;simp only[pars,Nat.zero_add];refine rS ?_;exact retR
end N45
def D_zzb : DF
 | [x0,x1]=>some (.bool (zzb (rdI x0) (rdI x1)),false,[wI .i64 x0,wI .i64 x1])
 | _=>none
theorem y4i:OkD Tryz.prog 45 D_zzb:=by unfold D_zzb;exact dk N45.den
def y3x (a0:(List UInt8)) (i1:Nat) (s1:Unit):Except (Bool) (Unit):=
 (bif ((!(decide (97<=((a0.getD i1 0).toNat:Int)) && decide (((a0.getD i1 0).toNat:Int)<=122))) && (((i1:Int) == 0) || (!(zqh ((a0.getD i1 0).toNat:Int)))))then .error false else .ok ())
def zmf (a0:(List UInt8)):Bool:=
 (match ye (y3x a0) (a0.length-0) 0 ()with|.error e=>e|.ok s1=>((a0 != []) && (zzb (a0.length:Int) 10)))
namespace N94
theorem DD:DOk Tryz.prog (Go.Ab.DD [(147,dP D_zqh),(45,dP D_zzb)]):=ya ys4.e <| ya y4i.e <| yc _
abbrev dn:=cj @D_zqh.eq_1 <| @D_zzb.eq_1
theorem den (a0:(List UInt8))  : Den Tryz.prog 94 [.str a0] (.bool (zmf a0)):=by
 generalize hR:zmf a0=r;unfold zmf at hR;refine di Tryz.func94 Tryz.ntmps94 Tryz.results94 ?_;intro c hL hc hk;obtain⟨hL0,_⟩:=hL;have hw0:=lwS hL0;clear hL0;simp only[pars,Nat.zero_add];iterate 2 refine rS ?_
 refine AWP.block ?_;generalize hz1:ye (y3x a0) (a0.length-0) 0 ()=z1 at hR;refine AWP.range (y3x a0) (fun i1 s1=>⟨[(0,.str a0),(3,.int .i64 (i1:Int))],[]⟩) (fun i1 s1=>True) (a0.length) 0 () [] hz1 ot wt sm ?_;clear hz1;intro i1 s1 hi1 hW1 hz1;refine rS ?_;refine yb ?_ ?_<;>intro hb
 ·have hlt1:i1<a0.length:=ot
  rw[yi hlt1]at hz1;simp only[y3x]at hz1;iterate 2 refine rS ?_
  refine yb ?_ ?_<;>intro hb
  ·simp only[hb,cond_true]at hz1
   refine rS ?_;refine AWP.ret ?_;subst hz1;dsimp only at hR;subst hR;exact es
  ·simp only[hb,cond_false]at hz1
   refine rS ?_;exact⟨_,[],hlt1,wt,hz1,sm⟩
 ·obtain rfl:i1=a0.length:=ot
  exact retX
end N94
def D_zmf : DF
 | [x0]=>some (.bool (zmf (rdS x0)),false,[wS x0])
 | _=>none
theorem yf5:OkD Tryz.prog 94 D_zmf:=by unfold D_zmf;exact dk N94.den
def ze (a0:Int) (a1:Int) (a2:Int):Bool:=
 (decide (a1<=a0) && decide (a0<=a2))
namespace N53
theorem DD:DOk Tryz.prog (Go.Ab.DD []):=yc _
theorem den (a0:Int) (a1:Int) (a2:Int)  : Den Tryz.prog 53 [.int .i64 a0,.int .i64 a1,.int .i64 a2] (.bool (ze a0 a1 a2)):=by
 generalize hR:ze a0 a1 a2=r;unfold ze at hR;refine di Tryz.func53 Tryz.ntmps53 Tryz.results53 ?_;intro c hL hc hk;clear hL;simp only[pars,Nat.zero_add];refine rS ?_;exact retR
end N53
def D_ze : DF
 | [x0,x1,x2]=>some (.bool (ze (rdI x0) (rdI x1) (rdI x2)),false,[wI .i64 x0,wI .i64 x1,wI .i64 x2])
 | _=>none
theorem yfc:OkD Tryz.prog 53 D_ze:=by unfold D_ze;exact dk N53.den
def yiu (a0:(List Int)) (i1:Nat) (s1:Int):Except (Bool) (Int):=
 (bif (!(ze (a0.getD i1 default) 1 9))then .error false else .ok (IntKind.wrap .i64 (s1+(a0.getD i1 default))))
def zoe (a0:(List Int)):Bool:=
 (match ye (yiu a0) (a0.length-0) 0 0 with|.error e=>e|.ok s1=>(((zzb (a0.length:Int) 4) && decide (s1<=12)) && (!(zmd a0 ([1]:List Int)))))
namespace N215
theorem DD:DOk Tryz.prog (Go.Ab.DD [(216,dP D_zmd),(45,dP D_zzb),(53,dP D_ze)]):=ya ywx.e <| ya y4i.e <| ya yfc.e <| yc _
abbrev dn:=cj @D_zmd.eq_1 <| cj @D_zzb.eq_1 <| @D_ze.eq_1
abbrev ol:=@ze.eq_1
theorem den (a0:(List Int))  : Den Tryz.prog 215 [encL 1 yy a0] (.bool (zoe a0)):=by
 generalize hR:zoe a0=r;unfold zoe at hR;refine di Tryz.func215 Tryz.ntmps215 Tryz.results215 ?_;intro c hL hc hk;obtain⟨hL0,_⟩:=hL;have hw0:=lwA hL0;clear hL0;simp only[pars,Nat.zero_add];iterate 3 refine rS ?_
 refine AWP.block ?_;generalize hz1:ye (yiu a0) (a0.length-0) 0 0=z1 at hR;refine AWP.range (yiu a0) (fun i1 s1=>⟨[(0,encL 1 yy a0),(3,.int .i64 s1),(6,encL 1 yy a0),(7,.int .i64 (a0.length:Int)),(8,.int .i64 (i1:Int))],[]⟩) (fun i1 s1=>True) (a0.length) 0 0 [] hz1 ot wt sm ?_;clear hz1;intro i1 s1 hi1 hW1 hz1;refine rS ?_;refine AWP.seq ?_;refine yb ?_ ?_<;>intro hb
 ·have hlt1:i1<a0.length:=ot
  rw[yi hlt1]at hz1;simp only[yiu]at hz1;iterate 2 refine rS ?_
  refine yb ?_ ?_<;>intro hb
  ·simp only[hb,cond_true]at hz1
   refine rS ?_;refine AWP.ret ?_;subst hz1;dsimp only at hR;subst hR;exact es
  ·simp only[hb,cond_false]at hz1
   iterate 2 refine rS ?_
   exact⟨_,[],hlt1,wt,hz1,sm⟩
 ·obtain rfl:i1=a0.length:=ot
  exact retX
end N215
def D_zoe : DF
 | [x0]=>some (.bool (zoe (rdL y5b x0)),false,[wL 1 yy y5b x0])
 | _=>none
theorem ya6:OkD Tryz.prog 215 D_zoe:=by unfold D_zoe;exact dk N215.den
def y2i (a0:(List UInt8)) (i1:Nat) (s1:Int):Except (Bool) (Int):=
 (bif decide ((zeg [87,82,71,89] ((a0.getD i1 0).toNat:Int))<=s1)then .error false else .ok (zeg [87,82,71,89] ((a0.getD i1 0).toNat:Int)))
def zoc (a0:(List UInt8)):Bool:=
 (match ye (y2i a0) (a0.length-0) 0 (-1)with|.error e=>e|.ok s1=>(ze (a0.length:Int) 1 3))
namespace N162
theorem DD:DOk Tryz.prog (Go.Ab.DD [(214,dP D_zeg),(53,dP D_ze)]):=ya yy9.e <| ya yfc.e <| yc _
abbrev dn:=cj @D_zeg.eq_1 <| @D_ze.eq_1
abbrev ol:=@ze.eq_1
theorem den (a0:(List UInt8))  : Den Tryz.prog 162 [.str a0] (.bool (zoc a0)):=by
 generalize hR:zoc a0=r;unfold zoc at hR;refine di Tryz.func162 Tryz.ntmps162 Tryz.results162 ?_;intro c hL hc hk;obtain⟨hL0,_⟩:=hL;have hw0:=lwS hL0;clear hL0;simp only[pars,Nat.zero_add];iterate 3 refine rS ?_
 refine AWP.block ?_;generalize hz1:ye (y2i a0) (a0.length-0) 0 (-1)=z1 at hR;refine AWP.range (y2i a0) (fun i1 s1=>⟨[(0,.str a0),(3,.int .i64 s1),(4,.int .i64 (i1:Int))],[]⟩) (fun i1 s1=>True) (a0.length) 0 (-1) [] hz1 ot wt sm ?_;clear hz1;intro i1 s1 hi1 hW1 hz1;refine rS ?_;refine yb ?_ ?_<;>intro hb
 ·have hlt1:i1<a0.length:=ot
  rw[yi hlt1]at hz1;simp only[y2i]at hz1;iterate 2 refine rS ?_
  refine yb ?_ ?_<;>intro hb
  ·simp only[hb,cond_true]at hz1
   refine rS ?_;refine AWP.ret ?_;subst hz1;dsimp only at hR;subst hR;exact es
  ·simp only[hb,cond_false]at hz1
   iterate 2 refine rS ?_
   exact⟨_,[],hlt1,wt,hz1,sm⟩
 ·obtain rfl:i1=a0.length:=ot
  exact retX
end N162
def D_zoc : DF
 | [x0]=>some (.bool (zoc (rdS x0)),false,[wS x0])
 | _=>none
theorem yw9:OkD Tryz.prog 162 D_zoc:=by unfold D_zoc;exact dk N162.den
def zjc (a0:(List UInt8)):(List UInt8):=
 (bif ((((a0.length:Int) != 1) || Op.bytesLess a0 [65]) || !(Op.bytesLess a0 [90] || a0 == [90]))then[]else([[46,45],[45,46,46,46],[45,46,45,46],[45,46,46],[46],[46,46,45,46],[45,45,46],[46,46,46,46],[46,46],[46,45,45,45],[45,46,45],[46,45,46,46],[45,45],[45,46],[45,45,45],[46,45,45,46],[45,45,46,45],[46,45,46],[46,46,46],[45],[46,46,45],[46,46,46,45],[46,45,45],[45,46,46,45],[45,46,45,45],[45,45,46,46]]:List (List UInt8)).getD ((IntKind.wrap .u8 (((a0.getD 0 0).toNat:Int)-65)).toNat) [])
namespace N217
theorem DD:DOk Tryz.prog (Go.Ab.DD []):=yc _
theorem o0 {p:Prop} (h:p:=by(first|(simp only[Bool.or_eq_false_iff,Bool.not_eq_false',Bool.or_eq_true,bne_eq_false_iff_eq]at hb;have h9:=ym4 a0 hb;have h8:=hb.1.1;and_intros<;>omega));first|done|fail):p:=h
theorem den (a0:(List UInt8))  : Den Tryz.prog 217 [.str a0] (.str (zjc a0)):=by
 generalize hR:zjc a0=r;unfold zjc at hR;refine di Tryz.func217 Tryz.ntmps217 Tryz.results217 ?_;intro c hL hc hk;obtain⟨hL0,_⟩:=hL;have hw0:=lwS hL0;clear hL0;simp only[pars,Nat.zero_add];iterate 2 refine rS ?_
 refine yb ?_ ?_<;>intro hb
 ·replace hR:=ct hR
  exact retR
 ·replace hR:=cf hR
  exact retR
end N217
def D_zjc : DF
 | [x0]=>some (.str (zjc (rdS x0)),false,[wS x0])
 | _=>none
theorem yfz:OkD Tryz.prog 217 D_zjc:=by unfold D_zjc;exact dk N217.den
def znb (a0:Character):Bool:=
 (bif (a0.Kind == 1)then(((a0.Group.length:Int) == 0) && (a0.Letter == []))else(bif (a0.Kind == 3)then(((a0.Group.length:Int) == 0) && (a0.Letter == []))else(bif (a0.Kind == 2)then((a0.Letter == []) && (zoe a0.Group))else(bif (a0.Kind == 4)then((a0.Letter == []) && (zoe a0.Group))else(bif (a0.Kind == 5)then((a0.Letter == []) && (zoe a0.Group))else(bif (a0.Kind == 6)then(bif (a0.Letter == [])then(((a0.Group.length:Int) == 0) || (((a0.Group.length:Int) == 1) && (ze (a0.Group.getD 0 default) 2 9)))else((a0.Letter == [76]) && (zmd a0.Group ([6]:List Int))))else(bif (a0.Kind == 7)then(bif (a0.Letter == [])then(((a0.Group.length:Int) == 0) || (((a0.Group.length:Int) == 1) && (ze (a0.Group.getD 0 default) 2 9)))else((a0.Letter == [76]) && (zmd a0.Group ([6]:List Int))))else(bif (a0.Kind == 8)then(((zjc a0.Letter) != []) && ((a0.Group.length:Int) == 0))else false))))))))
namespace N163
theorem DD:DOk Tryz.prog (Go.Ab.DD [(215,dP D_zoe),(216,dP D_zmd),(217,dP D_zjc),(53,dP D_ze)]):=ya ya6.e <| ya ywx.e <| ya yfz.e <| ya yfc.e <| yc _
abbrev dn:=cj @D_zoe.eq_1 <| cj @D_zmd.eq_1 <| cj @D_zjc.eq_1 <| @D_ze.eq_1
abbrev ol:=@ze.eq_1
theorem den (a0:Character)  : Den Tryz.prog 163 [.agg (yh a0)] (.bool (znb a0)):=by
 generalize hR:znb a0=r;unfold znb at hR;refine di Tryz.func163 Tryz.ntmps163 Tryz.results163 ?_;intro c hL hc hk;obtain⟨hL0,_⟩:=hL;have hw0:bwCharacter a0:=yp a0 hL0;clear hL0;simp only[pars,Nat.zero_add];iterate 3 refine rS ?_
 refine yb ?_ ?_<;>intro hb
 ·replace hR:=ct hR
  refine AWP.skip ?_;refine yb ?_ ?_<;>intro hb
  ·exact retR
  ·exfalso;simp_all
 ·replace hR:=cf hR
  refine rS ?_;refine yb ?_ ?_<;>intro hb
  ·replace hR:=ct hR
   exact retR
  ·replace hR:=cf hR
   refine rS ?_;refine yb ?_ ?_<;>intro hb
   ·replace hR:=ct hR
    refine AWP.skip ?_;refine yb ?_ ?_<;>intro hb
    ·exact retR
    ·exfalso;simp_all
   ·replace hR:=cf hR
    refine rS ?_;refine yb ?_ ?_<;>intro hb
    ·replace hR:=ct hR
     refine AWP.skip ?_;refine yb ?_ ?_<;>intro hb
     ·exact retR
     ·exfalso;simp_all
    ·replace hR:=cf hR
     refine rS ?_;refine yb ?_ ?_<;>intro hb
     ·replace hR:=ct hR
      exact retR
     ·replace hR:=cf hR
      refine rS ?_;refine yb ?_ ?_<;>intro hb
      ·replace hR:=ct hR
       refine AWP.skip ?_;refine yb ?_ ?_<;>intro hb
       ·refine rS ?_
        refine yb ?_ ?_<;>intro hb
        ·replace hR:=ct hR
         exact retR
        ·replace hR:=cf hR
         exact retR
       ·exfalso;simp_all
      ·replace hR:=cf hR
       refine rS ?_;refine yb ?_ ?_<;>intro hb
       ·replace hR:=ct hR
        refine rS ?_;refine yb ?_ ?_<;>intro hb
        ·replace hR:=ct hR
         exact retR
        ·replace hR:=cf hR
         exact retR
       ·replace hR:=cf hR
        refine rS ?_;refine yb ?_ ?_<;>intro hb
        ·replace hR:=ct hR
         exact retR
        ·replace hR:=cf hR
         exact retR
end N163
def D_znb : DF
 | [x0]=>some (.bool (znb (rdG yd x0)),false,[wG yh yd x0])
 | _=>none
theorem y28:OkD Tryz.prog 163 D_znb:=by unfold D_znb;exact dk N163.den
theorem yol (a:List UInt8):zjc a=if a.length=1/\65<=(a.getD 0 0).toNat/\(a.getD 0 0).toNat<=90 then y0d.getD ((a.getD 0 0).toNat-65) []else[]:=by
 unfold zjc;by_cases h1:a.length=1
 ·have c1:((a.length:Int) != 1)=false:=by rw[h1];rfl
  rw[c1,yaj a 65 h1,yaj a 90 h1,yg3 a 90 h1];have e1:(65:UInt8).toNat=65:=rfl;have e2:(90:UInt8).toNat=90:=rfl;rw[e1,e2];by_cases h2:65<=(a.getD 0 0).toNat/\(a.getD 0 0).toNat<=90
  ·rw[if_pos ⟨h1,h2⟩,decide_eq_false (by omega)]
   have c2:(decide ((a.getD 0 0).toNat<90) || decide ((a.getD 0 0).toNat=90))=true:=by
    rw[Bool.or_eq_true,decide_eq_true_eq,decide_eq_true_eq];omega
   rw[c2];simp only[Bool.or_self,Bool.not_true,cond_false];rw[y7l _ (by omega) (by omega),show((((a.getD 0 0).toNat:Int)-65).toNat)=(a.getD 0 0).toNat-65 by omega];rfl
  ·rw[if_neg (fun h=>h2 h.2)]
   by_cases h3:(a.getD 0 0).toNat<65
   ·rw[decide_eq_true h3];rfl
   ·have c2:(decide ((a.getD 0 0).toNat<90) || decide ((a.getD 0 0).toNat=90))=false:=by
     rw[decide_eq_false (by omega),decide_eq_false (by omega)];rfl
    rw[c2,decide_eq_false h3];rfl
 ·have c1:((a.length:Int) != 1)=true:=by rw[bne_iff_ne];omega
  rw[c1,if_neg (fun h=>h1 h.1)];rfl
theorem y01 (a:List UInt8):(zjc a).length<=4:=by
 rw[yol];split
 ·exact ydm _
 ·simp
theorem ygw (a:List UInt8):∀ x∈zjc a,x.toNat<128:=by
 intro x hx;rw[yol]at hx;split at hx
 ·rw[List.getD_eq_getElem?_getD]at hx
  cases h:y0d[(a.getD 0 0).toNat-65]? with
  | none=>rw[h]at hx;simp at hx
  | some y=>
   rw[h]at hx;rcases(yai y (List.mem_of_getElem? h)).2.2 x hx with e|e<;>subst e<;>decide
 ·simp at hx
def zai (a0:Int):Bool:=
 ((a0 == 6) || (a0 == 7))
namespace N218
theorem DD:DOk Tryz.prog (Go.Ab.DD []):=yc _
theorem den (a0:Int)  : Den Tryz.prog 218 [.int .i64 a0] (.bool (zai a0)):=by
 generalize hR:zai a0=r;unfold zai at hR;refine di Tryz.func218 Tryz.ntmps218 Tryz.results218 ?_;intro c hL hc hk;clear hL;simp only[pars,Nat.zero_add];refine rS ?_;exact retR
end N218
def D_zai : DF
 | [x0]=>some (.bool (zai (rdI x0)),false,[wI .i64 x0])
 | _=>none
theorem yj6:OkD Tryz.prog 218 D_zai:=by unfold D_zai;exact dk N218.den
def zxd (a0:Character):Bool:=
 ((a0.Kind == 1) || ((zai a0.Kind) && ((a0.Group.length:Int) == 0)))
namespace N164
theorem DD:DOk Tryz.prog (Go.Ab.DD [(218,dP D_zai)]):=ya yj6.e <| yc _
abbrev dn:=@D_zai.eq_1
theorem den (a0:Character)  : Den Tryz.prog 164 [.agg (yh a0)] (.bool (zxd a0)):=by
 generalize hR:zxd a0=r;unfold zxd at hR;refine di Tryz.func164 Tryz.ntmps164 Tryz.results164 ?_;intro c hL hc hk;obtain⟨hL0,_⟩:=hL;have hw0:bwCharacter a0:=yp a0 hL0;clear hL0;simp only[pars,Nat.zero_add];refine rS ?_;exact retR
end N164
def D_zxd : DF
 | [x0]=>some (.bool (zxd (rdG yd x0)),false,[wG yh yd x0])
 | _=>none
theorem yvy:OkD Tryz.prog 164 D_zxd:=by unfold D_zxd;exact dk N164.den
def zcb (a0:Int):(Int×Int×Int):=
 (bif (a0 == 2)then(10,10,15)else(bif (a0 == 4)then(5,15,20)else(bif (a0 == 5)then(20,20,25)else(bif (a0 == 6)then(5,5,20)else(bif (a0 == 7)then(2,3,10)else(bif (a0 == 8)then(5,5,30)else(0,0,0)))))))
namespace N219
theorem DD:DOk Tryz.prog (Go.Ab.DD []):=yc _
theorem den (a0:Int)  : Den Tryz.prog 219 [.int .i64 a0] (.tup [.int .i64 ((zcb a0).1),.int .i64 ((zcb a0).2.1),.int .i64 ((zcb a0).2.2)]):=by
 generalize hR:zcb a0=r;unfold zcb at hR;refine di Tryz.func219 Tryz.ntmps219 Tryz.results219 ?_;intro c hL hc hk;clear hL;simp only[pars,Nat.zero_add];iterate 3 refine rS ?_
 refine yb ?_ ?_<;>intro hb
 ·replace hR:=ct hR
  exact retR
 ·replace hR:=cf hR
  refine rS ?_;refine yb ?_ ?_<;>intro hb
  ·replace hR:=ct hR
   exact retR
  ·replace hR:=cf hR
   refine rS ?_;refine yb ?_ ?_<;>intro hb
   ·replace hR:=ct hR
    exact retR
   ·replace hR:=cf hR
    refine rS ?_;refine yb ?_ ?_<;>intro hb
    ·replace hR:=ct hR
     exact retR
    ·replace hR:=cf hR
     refine rS ?_;refine yb ?_ ?_<;>intro hb
     ·replace hR:=ct hR
      exact retR
     ·replace hR:=cf hR
      refine rS ?_;refine yb ?_ ?_<;>intro hb
      ·replace hR:=ct hR
       exact retR
      ·replace hR:=cf hR
       exact retR
end N219
def D_zcb : DF
 | [x0]=>some (.tup [.int .i64 ((zcb (rdI x0)).1),.int .i64 ((zcb (rdI x0)).2.1),.int .i64 ((zcb (rdI x0)).2.2)],false,[wI .i64 x0])
 | _=>none
theorem ybz:OkD Tryz.prog 219 D_zcb:=by unfold D_zcb;exact dk N219.den
def yhz (a0:(List Int)) (i1:Nat) (s1:Int):Except (Int) (Int):=
 .ok (IntKind.wrap .i64 (s1+(a0.getD i1 default)))
def zwf (a0:(List Int)):Int:=
 (match ye (yhz a0) (a0.length-0) 0 0 with|.error e=>e|.ok s1=>s1)
namespace N220
theorem DD:DOk Tryz.prog (Go.Ab.DD []):=yc _
theorem den (a0:(List Int))  : Den Tryz.prog 220 [encL 1 yy a0] (.int .i64 (zwf a0)):=by
 generalize hR:zwf a0=r;unfold zwf at hR;refine di Tryz.func220 Tryz.ntmps220 Tryz.results220 ?_;intro c hL hc hk;obtain⟨hL0,_⟩:=hL;have hw0:=lwA hL0;clear hL0;simp only[pars,Nat.zero_add];iterate 3 refine rS ?_
 refine AWP.block ?_;generalize hz1:ye (yhz a0) (a0.length-0) 0 0=z1 at hR;refine AWP.range (yhz a0) (fun i1 s1=>⟨[(3,.int .i64 s1),(6,encL 1 yy a0),(7,.int .i64 (a0.length:Int)),(8,.int .i64 (i1:Int))],[]⟩) (fun i1 s1=>True) (a0.length) 0 0 [] hz1 ot wt sm ?_;clear hz1;intro i1 s1 hi1 hW1 hz1;refine rS ?_;refine AWP.seq ?_;refine yb ?_ ?_<;>intro hb
 ·have hlt1:i1<a0.length:=ot
  rw[yi hlt1]at hz1;simp only[yhz]at hz1;iterate 3 refine rS ?_
  exact⟨_,[],hlt1,wt,hz1,sm⟩
 ·obtain rfl:i1=a0.length:=ot
  exact retX
end N220
def D_zwf : DF
 | [x0]=>some (.int .i64 (zwf (rdL y5b x0)),false,[wL 1 yy y5b x0])
 | _=>none
theorem yo4:OkD Tryz.prog 220 D_zwf:=by unfold D_zwf;exact dk N220.den
def zh (a0:Int):(List UInt8):=
 (zyh a0 10)
namespace N59
theorem DD:DOk Tryz.prog (Go.Ab.DD [(107,dP D_zyh)]):=ya yt9.e <| yc _
abbrev dn:=@D_zyh.eq_1
theorem den (a0:Int) (hp0 : -9223372036854775808<=a0) (hp1:a0<=9223372036854775807):Den Tryz.prog 59 [.int .i64 a0] (.str (zh a0)):=by
 generalize hR:zh a0=r;unfold zh at hR;refine di Tryz.func59 Tryz.ntmps59 Tryz.results59 ?_;intro c hL hc hk;clear hL;simp only[pars,Nat.zero_add];refine rS ?_;exact retR
end N59
def D_zh : DF
 | [x0]=>some (.str (zh (rdI x0)),false,[wI .i64 x0,-9223372036854775808<=(rdI x0),(rdI x0)<=9223372036854775807])
 | _=>none
theorem ygf:OkD Tryz.prog 59 D_zh:=by unfold D_zh;exact dk N59.den
theorem yhu (n:Int):(Go.Lib.itoa n).length<=n.natAbs+2:=by
 unfold Go.Lib.itoa;split
 ·have:=y2d n.natAbs
  simp only[List.length_cons];omega
 ·have:=y2d n.toNat
  omega
theorem yg0 (n:Int):zh n=Go.Lib.itoa n:=rfl
theorem y0c (n:Int):(zh n).length<=n.natAbs+2:=yhu n
theorem ynj (n:Int) (h1 : -9223372036854775808<=n) (h2:n<=9223372036854775807):(Lib.itoa n).length<=20:=by
 have h3:(Lib.decDigits n.natAbs).length<=19:=by
  by_cases h:n.natAbs<10
  ·have:=(ycd n.natAbs).2 (by omega);omega
  ·rw[yyb _ h,List.length_append,List.length_singleton]
   have:=(ycd (n.natAbs / 10)).2 (by omega);omega
 by_cases h:n<0
 ·rw[ybd h,List.length_cons];omega
 ·rw[y3f h];omega
theorem yfd (n:Int) (h1 : -9223372036854775808<=n) (h2:n<=9223372036854775807):(zh n).length<=20:=ynj n h1 h2
theorem ypo (n:Int):(zh (IntKind.wrap .i64 n)).length<=20:=yfd _ (by rw[IntKind.wrap_i64];omega) (by rw[IntKind.wrap_i64];omega)
theorem yfl (n:Int) : -10<n.tmod 10/\n.tmod 10<10:=⟨by have:=Int.lt_tmod_of_pos n (b:=10) (by omega);omega,Int.tmod_lt_of_pos n (by omega)⟩
theorem y5k (s : List UInt8) : ∀ (xs : List (List UInt8)) (m : Nat), (∀ x ∈ xs, x.length <= m) -> (Lib.join xs s).length <= xs.length * (m + s.length)
 | [],m,_=>by simp[Lib.join_nil]
 | x::r,m,h=>by
  rw[Lib.join_cons,List.length_append];have h1:=h x (by simp)
  have h2:∀ r:List (List UInt8),(∀ x∈r,x.length<=m)->(Lib.joinTail s r).length<=r.length * (m+s.length):=by
   intro r
   induction r with
   | nil=>intro _;simp[Lib.joinTail]
   | cons y r ih=>
    intro h;have h3:=ih (fun z hz=>h z (by simp[hz]));have h4:=h y (by simp);unfold Lib.joinTail at h3 ⊢;simp only[List.map_cons,List.flatten_cons,List.length_append,List.length_cons];rw[Nat.add_mul];omega
  have h3:=h2 r (fun z hz=>h z (by simp[hz]));rw[List.length_cons,Nat.add_mul];omega
theorem ymp {l:List Int} (h:∀ v∈l,v<=9) (i:Nat):l.getD i default<=9:=by
 rw[List.getD_eq_getElem?_getD]
 cases hg:l[i]? with
 | none=>show(0:Int)<=9;omega
 | some x=>have:=h x (List.mem_of_getElem? hg);simpa only[Option.getD_some]
theorem yvg {l:List Int} (h:∀ v∈l,1<=v/\v<=9) (i:Nat):0<=l.getD i default/\l.getD i default<=9:=by
 rw[List.getD_eq_getElem?_getD]
 cases hg:l[i]? with
 | none=>show(0:Int)<=0/\(0:Int)<=9;omega
 | some x=>have:=h x (List.mem_of_getElem? hg);simp only[Option.getD_some];omega
def y9n (a0:Character) (i1:Nat) (s1:List Int):Except ((List Int)) (List Int):=
 (bif decide (0<(i1:Int))then(bif ((((zjc a0.Letter).getD i1 0).toNat:Int) == 45)then .ok ((s1++([(zcb a0.Kind).2.1]:List Int))++([IntKind.wrap .i64 (3 * ((zcb a0.Kind).1))]:List Int))else .ok ((s1++([(zcb a0.Kind).2.1]:List Int))++([(zcb a0.Kind).1]:List Int)))else(bif ((((zjc a0.Letter).getD i1 0).toNat:Int) == 45)then .ok (s1++([IntKind.wrap .i64 (3 * ((zcb a0.Kind).1))]:List Int))else .ok (s1++([(zcb a0.Kind).1]:List Int))))
def yuo (a0:Character) (i2:Nat) (s2:List Int) (i3:Nat) (s3:List Int):Except ((List Int)) (List Int):=
 (bif decide (0<(i3:Int))then .ok ((s3++([(zcb a0.Kind).2.1]:List Int))++([(zcb a0.Kind).1]:List Int))else(bif decide (0<(i2:Int))then .ok ((s3++([IntKind.wrap .i64 (((zcb a0.Kind).2.1)+20)]:List Int))++([(zcb a0.Kind).1]:List Int))else .ok (s3++([(zcb a0.Kind).1]:List Int))))
def y5n (a0:Character) (i2:Nat) (s2:List Int):Except ((List Int)) (List Int):=
 (match ye (yuo a0 i2 s2) (((([1]:List Int).getD i2 default)).toNat-0) 0 s2 with|.error e=>.error e|.ok s3=>.ok s3)
def yip (a0:Character) (i4:Nat) (s4:List Int) (i5:Nat) (s5:List Int):Except ((List Int)) (List Int):=
 (bif decide (0<(i5:Int))then .ok ((s5++([(zcb a0.Kind).2.1]:List Int))++([(zcb a0.Kind).1]:List Int))else(bif decide (0<(i4:Int))then .ok ((s5++([IntKind.wrap .i64 (((zcb a0.Kind).2.1)+20)]:List Int))++([(zcb a0.Kind).1]:List Int))else .ok (s5++([(zcb a0.Kind).1]:List Int))))
def y7o (a0:Character) (i4:Nat) (s4:List Int):Except ((List Int)) (List Int):=
 (match ye (yip a0 i4 s4) (((a0.Group.getD i4 default)).toNat-0) 0 s4 with|.error e=>.error e|.ok s5=>.ok s5)
def zbb (a0:Character):(List Int):=
 (bif (a0.Kind == 8)then(match ye (y9n a0) ((zjc a0.Letter).length-0) 0 ([]:List Int)with|.error e=>e|.ok s1=>s1)else(bif ((a0.Group.length:Int) == 0)then(match ye (y5n a0) (1-0) 0 ([]:List Int)with|.error e=>e|.ok s2=>(bif (a0.Letter != [])then s2++([(zcb a0.Kind).2.1,20]:List Int)else s2))else(match ye (y7o a0) (a0.Group.length-0) 0 ([]:List Int)with|.error e=>e|.ok s4=>(bif (a0.Letter != [])then s4++([(zcb a0.Kind).2.1,20]:List Int)else s4))))
namespace N221
theorem DD:DOk Tryz.prog (Go.Ab.DD [(217,dP D_zjc),(219,dP D_zcb)]):=ya yfz.e <| ya ybz.e <| yc _
abbrev dn:=cj @D_zjc.eq_1 <| @D_zcb.eq_1
theorem o2 {p:Prop} (h:p:=by(first|(and_intros<;>first|decide|omega|(simp;(first|done|fail))|(rw[IntKind.wrap_i64];have:=hg9 i4;omega)|(rw[IntKind.wrap_i64];have:=hg1 i2;omega)|(rw[IntKind.wrap_i64];omega)|(intro i hi;exact ysi _ _ i hi)|(intro i hi;exact ylt _ _ _ i hi)));first|done|fail):p:=h
theorem o3 {p:Prop} (h:p:=by(first|(refine⟨⟨Nat.le_refl _,fun i hi=>y5r _ _ _ i hi⟩,.inl fun i hi=>by rw[ypl _ _ _ i hi];simp[y4b,ygc],by simp,fun i hi=>by rw[ypl _ _ _ i hi];exact y3 _⟩));first|done|fail):p:=h
theorem lx {p:Prop} (h:p:=by(exact lxx);first|done|fail):p:=h
set_option maxHeartbeats 1000000 in
set_option maxRecDepth 20000 in
theorem den (a0:Character) (hb0:bdCharacter a0) (hp0:a0.Group.length<=4) (hp1:∀ v∈a0.Group,v<=9):Den Tryz.prog 221 [.agg (yh a0)] (ownL 2 1 yy (zbb a0)):=by
 generalize hR:zbb a0=r;unfold zbb at hR;refine di Tryz.func221 Tryz.ntmps221 Tryz.results221 ?_;intro c hL hc hk;obtain⟨hL0,_⟩:=hL;have hw0:bwCharacter a0:=yp a0 hL0;clear hL0;simp only[pars,Nat.zero_add];have hg9:∀ i:Nat,a0.Group.getD i default<=9:=fun i=>ymp hp1 i
 have hs9:=y01 a0.Letter;have hs8:=ygw a0.Letter;have hg1:∀ i:Nat,([1]:List Int).getD i default<=9:=fun i=>ymp (by simp) i
 iterate 3 refine rS ?_
 refine yb ?_ ?_<;>intro hb
 ·replace hR:=ct hR
  iterate 2 refine rS ?_
  refine AWP.block ?_;refine AWP.lensT 27 rfl (fun hLn1 => ?_);generalize hz1:ye (y9n a0) ((zjc a0.Letter).length-0) 0 ([]:List Int)=z1 at hR;refine AWP.range (y9n a0) (fun i1 s1=>⟨[(3,.int .i64 ((zcb a0.Kind).1)),(4,.int .i64 ((zcb a0.Kind).2.1)),(6,.ref 0 1 0 s1.length),(28,.ptr 1 0)],[.arr 2 1 s1.length (fun j=>yy (s1.getD j default)),.it (zjc a0.Letter) i1 (decide (i1<(zjc a0.Letter).length))]⟩) (fun i1 s1=>s1.length<=([]:List Int).length+2 * i1/\s1.length<=2 * i1) ((zjc a0.Letter).length) 0 ([]:List Int) [1,2] hz1 ot wt sm ?_;clear hz1;intro i1 s1 hi1 hW1 hz1;refine AWP.seq ?_;by_cases hlt1:i1<(zjc a0.Letter).length
  ·rw[yi hlt1]at hz1;simp only[y9n]at hz1
   rw[decide_eq_true hlt1];refine rS ?_;refine AWP.seq ?_;refine AWP.cond rfl (fun hb => ?_) (fun hb=>by cases hb);iterate 2 refine rS ?_
   refine yb ?_ ?_<;>intro hb
   ·simp only[hb,cond_true]at hz1
    iterate 2 refine rS ?_
    refine yb ?_ ?_<;>intro hb
    ·simp only[hb,cond_true]at hz1
     refine rS ?_;exact⟨_,[5,1],hlt1,wt,hz1,sm⟩
    ·simp only[hb,cond_false]at hz1
     refine rS ?_;exact⟨_,[5,1],hlt1,wt,hz1,sm⟩
   ·simp only[hb,cond_false]at hz1
    refine rS ?_;refine yb ?_ ?_<;>intro hb
    ·simp only[hb,cond_true]at hz1
     refine rS ?_;exact⟨_,[3,1],hlt1,wt,hz1,sm⟩
    ·simp only[hb,cond_false]at hz1
     refine rS ?_;exact⟨_,[3,1],hlt1,wt,hz1,sm⟩
  ·obtain rfl:i1=(zjc a0.Letter).length:=by omega
   rw[ybb (Nat.le_refl _)]at hz1;subst hz1;dsimp only at hR;simp only[Nat.lt_irrefl,decide_false];refine rS ?_;refine AWP.seq ?_;refine AWP.cond rfl (fun hb=>by cases hb) (fun hb => ?_);refine AWP.exit ?_;refine yf ?_;exact retR
 ·replace hR:=cf hR
  iterate 2 refine rS ?_
  refine yb ?_ ?_<;>intro hb
  ·replace hR:=ct hR
   iterate 3 refine rS ?_
   refine AWP.block ?_;generalize hz2:ye (y5n a0) (1-0) 0 ([]:List Int)=z2 at hR;refine AWP.range (y5n a0) (fun i2 s2=>⟨[(1,.ptr 0 0),(3,.int .i64 ((zcb a0.Kind).1)),(4,.int .i64 ((zcb a0.Kind).2.1)),(10,.ref 1 1 0 s2.length),(58,.ref 2 1 0 1),(59,.int .i64 1),(60,.int .i64 (i2:Int))],[.box [.int .i64 a0.Kind,encL 1 yy a0.Group,.str a0.Letter,.str a0.Colors,.int .i64 a0.Period],.arr 2 1 s2.length (fun j=>yy (s2.getD j default)),.arr 2 1 ([1]:List Int).length (fun j=>yy (([1]:List Int).getD j default))]⟩) (fun i2 s2=>s2.length<=18 * i2) (1) 0 ([]:List Int) [0,2,1] hz2 ot wt sm ?_;clear hz2;intro i2 s2 hi2 hW2 hz2;refine rS ?_;refine AWP.seq ?_;refine yb ?_ ?_<;>intro hb
   ·have hlt2:i2<1:=ot
    rw[yi hlt2]at hz2;simp only[y5n]at hz2;iterate 2 refine rS ?_
    refine AWP.block ?_;generalize hz3:ye (yuo a0 i2 s2) (((([1]:List Int).getD i2 default)).toNat-0) 0 s2=z3 at hz2;refine AWP.range (yuo a0 i2 s2) (fun i3 s3=>⟨[(1,.ptr 0 0),(3,.int .i64 ((zcb a0.Kind).1)),(4,.int .i64 ((zcb a0.Kind).2.1)),(10,.ref 1 1 0 s3.length),(11,.int .i64 (i2:Int)),(58,.ref 2 1 0 1),(59,.int .i64 1),(60,.int .i64 (i2:Int)),(65,.int .i64 (([1]:List Int).getD i2 default)),(66,.int .i64 (i3:Int))],[.box [.int .i64 a0.Kind,encL 1 yy a0.Group,.str a0.Letter,.str a0.Colors,.int .i64 a0.Period],.arr 2 1 s3.length (fun j=>yy (s3.getD j default)),.arr 2 1 ([1]:List Int).length (fun j=>yy (([1]:List Int).getD j default))]⟩) (fun i3 s3=>s3.length<=s2.length+2 * i3/\s3.length<=18 * i2+2 * i3) (((([1]:List Int).getD i2 default)).toNat) 0 s2 [0,1,2] hz3 ot wt sm ?_;clear hz3;intro i3 s3 hi3 hW3 hz3;refine rS ?_;refine AWP.seq ?_;refine yb ?_ ?_<;>intro hb
    ·have hlt3:i3<((([1]:List Int).getD i2 default)).toNat:=ot
     rw[yi hlt3]at hz3;simp only[yuo]at hz3;iterate 2 refine rS ?_
     refine yb ?_ ?_<;>intro hb
     ·simp only[hb,cond_true]at hz3
      iterate 3 refine rS ?_
      exact⟨_,[0,6,2],hlt3,wt,hz3,sm⟩
     ·simp only[hb,cond_false]at hz3
      refine rS ?_;refine yb ?_ ?_<;>intro hb
      ·simp only[hb,cond_true]at hz3
       iterate 3 refine rS ?_
       exact⟨_,[0,6,2],hlt3,wt,hz3,sm⟩
      ·simp only[hb,cond_false]at hz3
       iterate 2 refine rS ?_
       exact⟨_,[0,4,2],hlt3,wt,hz3,sm⟩
    ·obtain rfl:i3=((([1]:List Int).getD i2 default)).toNat:=ot
     rw[ybb (Nat.le_refl _)]at hz3;subst hz3;dsimp only at hz2;refine AWP.exit ?_;refine yf ?_;refine rS ?_;exact⟨_,[0,1,2],hlt2,by(have h9:=hg1 i2;omega),hz2,sm⟩
   ·obtain rfl:i2=1:=ot
    rw[ybb (Nat.le_refl _)]at hz2;subst hz2;dsimp only at hR;refine AWP.exit ?_;refine yf ?_;refine rS ?_;refine yb ?_ ?_<;>intro hb
    ·replace hR:=ct hR
     refine rS ?_;exact retR
    ·replace hR:=cf hR
     exact retR
  ·replace hR:=cf hR
   iterate 2 refine rS ?_
   refine AWP.block ?_;refine AWP.lensS 9 rfl (fun hLn4 => ?_);generalize hz4:ye (y7o a0) (a0.Group.length-0) 0 ([]:List Int)=z4 at hR;refine AWP.range (y7o a0) (fun i4 s4=>⟨[(1,.ptr 0 0),(3,.int .i64 ((zcb a0.Kind).1)),(4,.int .i64 ((zcb a0.Kind).2.1)),(10,.ref 1 1 0 s4.length),(58,encL 1 yy a0.Group),(59,.int .i64 (a0.Group.length:Int)),(60,.int .i64 (i4:Int))],[.box [.int .i64 a0.Kind,encL 1 yy a0.Group,.str a0.Letter,.str a0.Colors,.int .i64 a0.Period],.arr 2 1 s4.length (fun j=>yy (s4.getD j default))]⟩) (fun i4 s4=>s4.length<=18 * i4) (a0.Group.length) 0 ([]:List Int) [0,1] hz4 ot wt sm ?_;clear hz4;intro i4 s4 hi4 hW4 hz4;refine rS ?_;refine AWP.seq ?_;refine yb ?_ ?_<;>intro hb
   ·have hlt4:i4<a0.Group.length:=ot
    rw[yi hlt4]at hz4;simp only[y7o]at hz4;iterate 2 refine rS ?_
    refine AWP.block ?_;generalize hz5:ye (yip a0 i4 s4) (((a0.Group.getD i4 default)).toNat-0) 0 s4=z5 at hz4;refine AWP.range (yip a0 i4 s4) (fun i5 s5=>⟨[(1,.ptr 0 0),(3,.int .i64 ((zcb a0.Kind).1)),(4,.int .i64 ((zcb a0.Kind).2.1)),(10,.ref 1 1 0 s5.length),(11,.int .i64 (i4:Int)),(58,encL 1 yy a0.Group),(59,.int .i64 (a0.Group.length:Int)),(60,.int .i64 (i4:Int)),(65,.int .i64 (a0.Group.getD i4 default)),(66,.int .i64 (i5:Int))],[.box [.int .i64 a0.Kind,encL 1 yy a0.Group,.str a0.Letter,.str a0.Colors,.int .i64 a0.Period],.arr 2 1 s5.length (fun j=>yy (s5.getD j default))]⟩) (fun i5 s5=>s5.length<=s4.length+2 * i5/\s5.length<=18 * i4+2 * i5) (((a0.Group.getD i4 default)).toNat) 0 s4 [0,1] hz5 ot wt sm ?_;clear hz5;intro i5 s5 hi5 hW5 hz5;refine rS ?_;refine AWP.seq ?_;refine yb ?_ ?_<;>intro hb
    ·have hlt5:i5<((a0.Group.getD i4 default)).toNat:=ot
     rw[yi hlt5]at hz5;simp only[yip]at hz5;iterate 2 refine rS ?_
     refine yb ?_ ?_<;>intro hb
     ·simp only[hb,cond_true]at hz5
      iterate 3 refine rS ?_
      exact⟨_,[0,5],hlt5,wt,hz5,sm⟩
     ·simp only[hb,cond_false]at hz5
      refine rS ?_;refine yb ?_ ?_<;>intro hb
      ·simp only[hb,cond_true]at hz5
       iterate 3 refine rS ?_
       exact⟨_,[0,5],hlt5,wt,hz5,sm⟩
      ·simp only[hb,cond_false]at hz5
       iterate 2 refine rS ?_
       exact⟨_,[0,3],hlt5,wt,hz5,sm⟩
    ·obtain rfl:i5=((a0.Group.getD i4 default)).toNat:=ot
     rw[ybb (Nat.le_refl _)]at hz5;subst hz5;dsimp only at hz4;refine AWP.exit ?_;refine yf ?_;refine rS ?_;exact⟨_,[0,1],hlt4,by(have h9:=hg9 i4;omega),hz4,sm⟩
   ·obtain rfl:i4=a0.Group.length:=ot
    rw[ybb (Nat.le_refl _)]at hz4;subst hz4;dsimp only at hR;refine AWP.exit ?_;refine yf ?_;refine rS ?_;refine yb ?_ ?_<;>intro hb
    ·replace hR:=ct hR
     refine rS ?_;exact retR
    ·replace hR:=cf hR
     exact retR
end N221
def D_zbb : DF
 | [x0]=>some (ownL 2 1 yy (zbb (rdG yd x0)),false,[wG yh yd x0,bdCharacter (rdG yd x0),(rdG yd x0).Group.length<=4,∀ v∈(rdG yd x0).Group,v<=9])
 | _=>none
theorem yp7:OkD Tryz.prog 221 D_zbb:=by unfold D_zbb;exact dk N221.den
def zdh (a0:Character):Int:=
 (bif (zxd a0)then 0 else(bif (a0.Kind == 3)then 20 else(bif decide (1<(a0.Group.length:Int))then IntKind.wrap .i64 ((zwf (zbb a0))+(IntKind.wrap .i64 (((zcb a0.Kind).2.2)+20)))else IntKind.wrap .i64 ((zwf (zbb a0))+((zcb a0.Kind).2.2)))))
namespace N165
theorem DD:DOk Tryz.prog (Go.Ab.DD [(164,dP D_zxd),(219,dP D_zcb),(220,dP D_zwf),(221,dP D_zbb)]):=ya yvy.e <| ya ybz.e <| ya yo4.e <| ya yp7.e <| yc _
abbrev dn:=cj @D_zxd.eq_1 <| cj @D_zcb.eq_1 <| cj @D_zwf.eq_1 <| @D_zbb.eq_1
theorem den (a0:Character) (hb0:bdCharacter a0) (hp0:a0.Group.length<=4) (hp1:∀ v∈a0.Group,v<=9):Den Tryz.prog 165 [.agg (yh a0)] (.int .i64 (zdh a0)):=by
 generalize hR:zdh a0=r;unfold zdh at hR;refine di Tryz.func165 Tryz.ntmps165 Tryz.results165 ?_;intro c hL hc hk;obtain⟨hL0,_⟩:=hL;have hw0:bwCharacter a0:=yp a0 hL0;clear hL0;simp only[pars,Nat.zero_add];iterate 2 refine rS ?_
 refine yb ?_ ?_<;>intro hb
 ·replace hR:=ct hR
  exact retR
 ·replace hR:=cf hR
  refine rS ?_;refine yb ?_ ?_<;>intro hb
  ·replace hR:=ct hR
   exact retR
  ·replace hR:=cf hR
   iterate 2 refine rS ?_
   refine yb ?_ ?_<;>intro hb
   ·replace hR:=ct hR
    refine rS ?_;exact retR
   ·replace hR:=cf hR
    exact retR
end N165
def D_zdh : DF
 | [x0]=>some (.int .i64 (zdh (rdG yd x0)),false,[wG yh yd x0,bdCharacter (rdG yd x0),(rdG yd x0).Group.length<=4,∀ v∈(rdG yd x0).Group,v<=9])
 | _=>none
theorem yi8:OkD Tryz.prog 165 D_zdh:=by unfold D_zdh;exact dk N165.den
def zrh (a0:Int):Bool:=
 (ze a0 0 359)
namespace N222
theorem DD:DOk Tryz.prog (Go.Ab.DD [(53,dP D_ze)]):=ya yfc.e <| yc _
abbrev dn:=@D_ze.eq_1
abbrev ol:=@ze.eq_1
theorem den (a0:Int)  : Den Tryz.prog 222 [.int .i64 a0] (.bool (zrh a0)):=by
 generalize hR:zrh a0=r;unfold zrh at hR;refine di Tryz.func222 Tryz.ntmps222 Tryz.results222 ?_;intro c hL hc hk;clear hL;simp only[pars,Nat.zero_add];refine rS ?_;exact retR
end N222
def D_zrh : DF
 | [x0]=>some (.bool (zrh (rdI x0)),false,[wI .i64 x0])
 | _=>none
theorem yi6:OkD Tryz.prog 222 D_zrh:=by unfold D_zrh;exact dk N222.den
def zeh (a0:(List UInt8)):Bool:=
 (((a0.length:Int) == 1) && (znc [87,82,71,89] a0))
namespace N223
theorem DD:DOk Tryz.prog (Go.Ab.DD [(169,dP D_znc)]):=ya ygx.e <| yc _
abbrev dn:=@D_znc.eq_1
theorem den (a0:(List UInt8))  : Den Tryz.prog 223 [.str a0] (.bool (zeh a0)):=by
 generalize hR:zeh a0=r;unfold zeh at hR;refine di Tryz.func223 Tryz.ntmps223 Tryz.results223 ?_;intro c hL hc hk;obtain⟨hL0,_⟩:=hL;have hw0:=lwS hL0;clear hL0;simp only[pars,Nat.zero_add];refine rS ?_;exact retR
end N223
def D_zeh : DF
 | [x0]=>some (.bool (zeh (rdS x0)),false,[wS x0])
 | _=>none
theorem yb9:OkD Tryz.prog 223 D_zeh:=by unfold D_zeh;exact dk N223.den
def zfh (a0:Sector):Bool:=
 (((zrh a0.From) && (zrh a0.To)) && (zeh a0.Color))
namespace N166
theorem DD:DOk Tryz.prog (Go.Ab.DD [(222,dP D_zrh),(223,dP D_zeh)]):=ya yi6.e <| ya yb9.e <| yc _
abbrev dn:=cj @D_zrh.eq_1 <| @D_zeh.eq_1
theorem den (a0:Sector)  : Den Tryz.prog 166 [.agg (yl a0)] (.bool (zfh a0)):=by
 generalize hR:zfh a0=r;unfold zfh at hR;refine di Tryz.func166 Tryz.ntmps166 Tryz.results166 ?_;intro c hL hc hk;obtain⟨hL0,_⟩:=hL;have hw0:bwSector a0:=y4 a0 hL0;clear hL0;simp only[pars,Nat.zero_add];refine rS ?_;exact retR
end N166
def D_zfh : DF
 | [x0]=>some (.bool (zfh (rdG yu x0)),false,[wG yl yu x0])
 | _=>none
theorem yx9:OkD Tryz.prog 166 D_zfh:=by unfold D_zfh;exact dk N166.den
def zfg (a0:Int) (a1:Int):Int:=
 (IntKind.wrap .i64 ((a0.tmod a1)+a1)).tmod a1
namespace N224
theorem DD:DOk Tryz.prog (Go.Ab.DD []):=yc _
theorem den (a0:Int) (a1:Int) (hp0:0<a1):Den Tryz.prog 224 [.int .i64 a0,.int .i64 a1] (.int .i64 (zfg a0 a1)):=by
 generalize hR:zfg a0 a1=r;unfold zfg at hR;refine di Tryz.func224 Tryz.ntmps224 Tryz.results224 ?_;intro c hL hc hk;clear hL;simp only[pars,Nat.zero_add];refine rS ?_;exact retR
end N224
def D_zfg : DF
 | [x0,x1]=>some (.int .i64 (zfg (rdI x0) (rdI x1)),false,[wI .i64 x0,wI .i64 x1,0<(rdI x1)])
 | _=>none
theorem ysx:OkD Tryz.prog 224 D_zfg:=by unfold D_zfg;exact dk N224.den
def zse (a0:Sector):Int:=
 IntKind.wrap .i64 ((zfg (IntKind.wrap .i64 ((IntKind.wrap .i64 (a0.To-a0.From))-1)) 360)+1)
namespace N168
theorem DD:DOk Tryz.prog (Go.Ab.DD [(224,dP D_zfg)]):=ya ysx.e <| yc _
abbrev dn:=@D_zfg.eq_1
theorem den (a0:Sector)  : Den Tryz.prog 168 [.agg (yl a0)] (.int .i64 (zse a0)):=by
 generalize hR:zse a0=r;unfold zse at hR;refine di Tryz.func168 Tryz.ntmps168 Tryz.results168 ?_;intro c hL hc hk;obtain⟨hL0,_⟩:=hL;have hw0:bwSector a0:=y4 a0 hL0;clear hL0;simp only[pars,Nat.zero_add];refine rS ?_;exact retR
end N168
def D_zse : DF
 | [x0]=>some (.int .i64 (zse (rdG yu x0)),false,[wG yl yu x0])
 | _=>none
theorem y4x:OkD Tryz.prog 168 D_zse:=by unfold D_zse;exact dk N168.den
def zrg (a0:Sector) (a1:Int):Bool:=
 decide ((zfg (IntKind.wrap .i64 (a1-a0.From)) 360)<(zse a0))
namespace N167
theorem DD:DOk Tryz.prog (Go.Ab.DD [(168,dP D_zse),(224,dP D_zfg)]):=ya y4x.e <| ya ysx.e <| yc _
abbrev dn:=cj @D_zse.eq_1 <| @D_zfg.eq_1
theorem den (a0:Sector) (a1:Int)  : Den Tryz.prog 167 [.agg (yl a0),.int .i64 a1] (.bool (zrg a0 a1)):=by
 generalize hR:zrg a0 a1=r;unfold zrg at hR;refine di Tryz.func167 Tryz.ntmps167 Tryz.results167 ?_;intro c hL hc hk;obtain⟨hL0,hL1,_⟩:=hL;have hw0:bwSector a0:=y4 a0 hL0;clear hL0 hL1;simp only[pars,Nat.zero_add];refine rS ?_;refine rD 6 ?_;exact retE
end N167
def D_zrg : DF
 | [x0,x1]=>some (.bool (zrg (rdG yu x0) (rdI x1)),false,[wG yl yu x0,wI .i64 x1])
 | _=>none
theorem yd8:OkD Tryz.prog 167 D_zrg:=by unfold D_zrg;exact dk N167.den
def yfk (a0:(List Sector)) (i1:Nat) (s1:Int) (i2:Nat) (s2:Unit):Except (Bool) (Unit):=
 (bif (((i2:Int) != (i1:Int)) && (zrg (a0.getD i1 default) ((a0.getD i2 default).From)))then .error false else .ok ())
def yii (a0:(List Sector)) (i1:Nat) (s1:Int):Except (Bool) (Int):=
 (bif ((!(zfh (a0.getD i1 default))) || (decide (0<(i1:Int)) && decide (((a0.getD i1 default).From)<=((a0.getD ((IntKind.wrap .i64 ((i1:Int)-1)).toNat) default).From))))then .error false else(match ye (yfk a0 i1 s1) (a0.length-0) 0 ()with|.error e=>.error e|.ok s2=>.ok (IntKind.wrap .i64 (s1+(zse (a0.getD i1 default))))))
def zjb (a0:(List Sector)):Bool:=
 (match ye (yii a0) (a0.length-0) 0 0 with|.error e=>e|.ok s1=>((zzb (a0.length:Int) 12) && decide (s1<=360)))
namespace N112
theorem DD:DOk Tryz.prog (Go.Ab.DD [(166,dP D_zfh),(167,dP D_zrg),(168,dP D_zse),(45,dP D_zzb)]):=ya yx9.e <| ya yd8.e <| ya y4x.e <| ya y4i.e <| yc _
abbrev dn:=cj @D_zfh.eq_1 <| cj @D_zrg.eq_1 <| cj @D_zse.eq_1 <| @D_zzb.eq_1
theorem den (a0:(List Sector))  : Den Tryz.prog 112 [encL 3 yl a0] (.bool (zjb a0)):=by
 generalize hR:zjb a0=r;unfold zjb at hR;refine di Tryz.func112 Tryz.ntmps112 Tryz.results112 ?_;intro c hL hc hk;obtain⟨hL0,_⟩:=hL;have hw0:=lwA hL0;have hw1:∀ v∈a0,bwSector v:=fun v hv=>y4 v ((yj hL0).2 v hv)
 clear hL0;simp only[pars,Nat.zero_add];iterate 3 refine rS ?_
 refine AWP.block ?_;generalize hz1:ye (yii a0) (a0.length-0) 0 0=z1 at hR;refine AWP.range (yii a0) (fun i1 s1=>⟨[(0,encL 3 yl a0),(3,.int .i64 s1),(8,encL 3 yl a0),(9,.int .i64 (a0.length:Int)),(10,.int .i64 (i1:Int))],[]⟩) (fun i1 s1=>True) (a0.length) 0 0 [] hz1 ot wt sm ?_;clear hz1;intro i1 s1 hi1 hW1 hz1;refine rS ?_;refine AWP.seq ?_;refine yb ?_ ?_<;>intro hb
 ·have hlt1:i1<a0.length:=ot
  rw[yi hlt1]at hz1;simp only[yii]at hz1;refine rS ?_;refine rD 18 ?_;refine yb ?_ ?_<;>intro hb
  ·simp only[hb,cond_true]at hz1
   refine rS ?_;refine AWP.ret ?_;subst hz1;dsimp only at hR;subst hR;exact es
  ·simp only[hb,cond_false]at hz1
   refine rS ?_;refine AWP.block ?_;generalize hz2:ye (yfk a0 i1 s1) (a0.length-0) 0 ()=z2 at hz1;refine AWP.range (yfk a0 i1 s1) (fun i2 s2=>⟨[(0,encL 3 yl a0),(3,.int .i64 s1),(4,.int .i64 (i1:Int)),(5,.ptr 0 0),(8,encL 3 yl a0),(9,.int .i64 (a0.length:Int)),(10,.int .i64 (i1:Int)),(33,encL 3 yl a0),(34,.int .i64 (a0.length:Int)),(35,.int .i64 (i2:Int))],[.box [.int .i64 ((a0.getD i1 default).From),.int .i64 ((a0.getD i1 default).To),.str ((a0.getD i1 default).Color)]]⟩) (fun i2 s2=>True) (a0.length) 0 () [0] hz2 ot wt sm ?_;clear hz2;intro i2 s2 hi2 hW2 hz2;refine rS ?_;refine AWP.seq ?_;refine yb ?_ ?_<;>intro hb
   ·have hlt2:i2<a0.length:=ot
    rw[yi hlt2]at hz2;simp only[yfk]at hz2;iterate 2 refine rS ?_
    refine yb ?_ ?_<;>intro hb
    ·simp only[hb,cond_true]at hz2
     refine rS ?_;refine AWP.ret ?_;subst hz2;dsimp only at hz1;subst hz1;dsimp only at hR;subst hR;exact es
    ·simp only[hb,cond_false]at hz2
     refine rS ?_;exact⟨_,[0],hlt2,wt,hz2,sm⟩
   ·obtain rfl:i2=a0.length:=ot
    rw[ybb (Nat.le_refl _)]at hz2;subst hz2;dsimp only at hz1;refine AWP.exit ?_;refine yf ?_;iterate 2 refine rS ?_
    exact⟨_,[],hlt1,wt,hz1,sm⟩
 ·obtain rfl:i1=a0.length:=ot
  exact retX
end N112
def D_zjb : DF
 | [x0]=>some (.bool (zjb (rdL yu x0)),false,[wL 3 yl yu x0])
 | _=>none
theorem yfq:OkD Tryz.prog 112 D_zjb:=by unfold D_zjb;exact dk N112.den
def ygt (a0:(List Sector)) (i1:Nat) (s1:List UInt8) (i2:Nat) (s2:List UInt8):Except ((List UInt8)) (List UInt8):=
 (bif ((((a0.getD i2 default).Color) == (([87,82,71,89].take ((IntKind.wrap .i64 ((i1:Int)+1)).toNat)).drop i1)) && (!(znc s2 (([87,82,71,89].take ((IntKind.wrap .i64 ((i1:Int)+1)).toNat)).drop i1))))then .ok (s2++(([87,82,71,89].take ((IntKind.wrap .i64 ((i1:Int)+1)).toNat)).drop i1))else .ok s2)
def ylo (a0:(List Sector)) (i1:Nat) (s1:List UInt8):Except ((List UInt8)) (List UInt8):=
 (match ye (ygt a0 i1 s1) (a0.length-0) 0 s1 with|.error e=>.error e|.ok s2=>.ok s2)
def znd (a0:(List Sector)):(List UInt8):=
 (match ye (ylo a0) ([87,82,71,89].length-0) 0 []with|.error e=>e|.ok s1=>s1)
namespace N113
theorem DD:DOk Tryz.prog (Go.Ab.DD [(169,dP D_znc)]):=ya ygx.e <| yc _
abbrev dn:=@D_znc.eq_1
theorem o0 {p:Prop} (h:p:=by(first|(have h4:=hq4 i1;have h1:=hW1;have h2:=hW2;and_intros<;>first|omega|exact y1x (by omega)));first|done|fail):p:=h
theorem den (a0:(List Sector)) (hb0:a0.length<1099511627776) (hb1:∀ v∈a0,bdSector v):Den Tryz.prog 113 [encL 3 yl a0] (.str (znd a0)):=by
 generalize hR:znd a0=r;unfold znd at hR;refine di Tryz.func113 Tryz.ntmps113 Tryz.results113 ?_;intro c hL hc hk;obtain⟨hL0,_⟩:=hL;have hw0:=lwA hL0;have hw1:∀ v∈a0,bwSector v:=fun v hv=>y4 v ((yj hL0).2 v hv)
 clear hL0;simp only[pars,Nat.zero_add];have hq4:=yx6;iterate 3 refine rS ?_
 refine AWP.block ?_;generalize hz1:ye (ylo a0) ([87,82,71,89].length-0) 0 []=z1 at hR;refine AWP.range (ylo a0) (fun i1 s1=>⟨[(0,encL 3 yl a0),(3,.str s1),(8,.ptr 0 0)],[.it [87,82,71,89] i1 (decide (i1<[87,82,71,89].length))]⟩) (fun i1 s1=>s1.length<=1099511627776 * i1) ([87,82,71,89].length) 0 [] [0] hz1 ot (by(simp)) sm ?_;clear hz1;intro i1 s1 hi1 hW1 hz1;refine AWP.seq ?_;by_cases hlt1:i1<[87,82,71,89].length
 ·rw[yi hlt1]at hz1;simp only[ylo]at hz1
  rw[decide_eq_true hlt1];refine rS ?_;refine AWP.seq ?_;refine AWP.cond rfl (fun hb => ?_) (fun hb=>by cases hb);iterate 2 refine rS ?_
  refine AWP.block ?_;generalize hz2:ye (ygt a0 i1 s1) (a0.length-0) 0 s1=z2 at hz1;refine AWP.range (ygt a0 i1 s1) (fun i2 s2=>⟨[(0,encL 3 yl a0),(3,.str s2),(4,.int .i64 (i1:Int)),(8,.ptr 0 0),(12,encL 3 yl a0),(13,.int .i64 (a0.length:Int)),(14,.int .i64 (i2:Int))],[.it [87,82,71,89] (i1+1) (decide (i1+1<[87,82,71,89].length))]⟩) (fun i2 s2=>s2.length<=1099511627776 * i1+i2) (a0.length) 0 s1 [0] hz2 ot (by(exact hW1)) sm ?_;clear hz2;intro i2 s2 hi2 hW2 hz2;refine rS ?_;refine AWP.seq ?_;refine yb ?_ ?_<;>intro hb
  ·have hlt2:i2<a0.length:=ot
   rw[yi hlt2]at hz2;simp only[ygt]at hz2;iterate 3 refine rS ?_
   refine yb ?_ ?_<;>intro hb
   ·simp only[hb,cond_true]at hz2
    iterate 2 refine rS ?_
    exact⟨_,[0],hlt2,by(have h4:=hq4 i1;have h2:=hW2;simp only[ln]at *;omega),hz2,sm⟩
   ·simp only[hb,cond_false]at hz2
    refine rS ?_;exact⟨_,[0],hlt2,by(have h4:=hq4 i1;have h2:=hW2;simp only[ln]at *;omega),hz2,sm⟩
  ·obtain rfl:i2=a0.length:=ot
   rw[ybb (Nat.le_refl _)]at hz2;subst hz2;dsimp only at hz1;refine AWP.exit ?_;refine yf ?_;exact⟨_,[0],hlt1,by(have h1:=hW1;omega),hz1,sm⟩
 ·obtain rfl:i1=[87,82,71,89].length:=by omega
  rw[ybb (Nat.le_refl _)]at hz1;subst hz1;dsimp only at hR;simp only[Nat.lt_irrefl,decide_false];refine rS ?_;refine AWP.seq ?_;refine AWP.cond rfl (fun hb=>by cases hb) (fun hb => ?_);refine AWP.exit ?_;refine yf ?_;exact retR
end N113
def D_znd : DF
 | [x0]=>some (.str (znd (rdL yu x0)),false,[wL 3 yl yu x0,(rdL yu x0).length<1099511627776,∀ v∈(rdL yu x0),bdSector v])
 | _=>none
theorem y26:OkD Tryz.prog 113 D_znd:=by unfold D_znd;exact dk N113.den
def zxg (a0:Int):Bool:=
 (ze a0 1 9)
namespace N148
theorem DD:DOk Tryz.prog (Go.Ab.DD [(53,dP D_ze)]):=ya yfc.e <| yc _
abbrev dn:=@D_ze.eq_1
abbrev ol:=@ze.eq_1
theorem den (a0:Int)  : Den Tryz.prog 148 [.int .i64 a0] (.bool (zxg a0)):=by
 generalize hR:zxg a0=r;unfold zxg at hR;refine di Tryz.func148 Tryz.ntmps148 Tryz.results148 ?_;intro c hL hc hk;clear hL;simp only[pars,Nat.zero_add];refine rS ?_;exact retR
end N148
def D_zxg : DF
 | [x0]=>some (.bool (zxg (rdI x0)),false,[wI .i64 x0])
 | _=>none
theorem ycz:OkD Tryz.prog 148 D_zxg:=by unfold D_zxg;exact dk N148.den
def zyg (a0:Int) (a1:Int):Bool:=
 (decide (0<=a0) && decide (a0<a1))
namespace N225
theorem DD:DOk Tryz.prog (Go.Ab.DD []):=yc _
theorem den (a0:Int) (a1:Int)  : Den Tryz.prog 225 [.int .i64 a0,.int .i64 a1] (.bool (zyg a0 a1)):=by
 generalize hR:zyg a0 a1=r;unfold zyg at hR;refine di Tryz.func225 Tryz.ntmps225 Tryz.results225 ?_;intro c hL hc hk;clear hL;simp only[pars,Nat.zero_add];refine rS ?_;exact retR
end N225
def D_zyg : DF
 | [x0,x1]=>some (.bool (zyg (rdI x0) (rdI x1)),false,[wI .i64 x0,wI .i64 x1])
 | _=>none
theorem yk9:OkD Tryz.prog 225 D_zyg:=by unfold D_zyg;exact dk N225.den
def zac (a0:Int) (a1:(List (List UInt8))):(List UInt8):=
 (bif (!(zyg a0 (a1.length:Int)))then[]else(a1.getD ((a0).toNat) default))
namespace N171
theorem DD:DOk Tryz.prog (Go.Ab.DD [(225,dP D_zyg)]):=ya yk9.e <| yc _
abbrev dn:=@D_zyg.eq_1
abbrev ol:=@zyg.eq_1
theorem den (a0:Int) (a1:(List (List UInt8)))  : Den Tryz.prog 171 [.int .i64 a0,encL 1 eS a1] (.str (zac a0 a1)):=by
 generalize hR:zac a0 a1=r;unfold zac at hR;refine di Tryz.func171 Tryz.ntmps171 Tryz.results171 ?_;intro c hL hc hk;obtain⟨hL0,hL1,_⟩:=hL;have hw0:=lwA hL1;have hw1:∀ v∈a1,bwS v:=fun v hv=>yez v ((yj hL1).2 v hv)
 clear hL0 hL1;simp only[pars,Nat.zero_add];iterate 2 refine rS ?_
 refine yb ?_ ?_<;>intro hb
 ·replace hR:=ct hR
  exact retR
 ·replace hR:=cf hR
  exact retR
end N171
def D_zac : DF
 | [x0,x1]=>some (.str (zac (rdI x0) (rdL dS x1)),false,[wI .i64 x0,wL 1 eS dS x1])
 | _=>none
theorem ymi:OkD Tryz.prog 171 D_zac:=by unfold D_zac;exact dk N171.den
def zzg (a0:Int):(List UInt8):=
 (zac a0 ([[],[82],[71],[66,89],[66,89,66],[89,66],[89,66,89],[66,82,66],[82,87],[89]]:List (List UInt8)))
namespace N149
theorem DD:DOk Tryz.prog (Go.Ab.DD [(171,dP D_zac)]):=ya ymi.e <| yc _
abbrev dn:=@D_zac.eq_1
theorem lx {p:Prop} (h:p:=by(exact lxx);first|done|fail):p:=h
theorem den (a0:Int)  : Den Tryz.prog 149 [.int .i64 a0] (.str (zzg a0)):=by
 generalize hR:zzg a0=r;unfold zzg at hR;refine di Tryz.func149 Tryz.ntmps149 Tryz.results149 ?_;intro c hL hc hk;clear hL;simp only[pars,Nat.zero_add];refine rS ?_;exact retR
end N149
def D_zzg : DF
 | [x0]=>some (.str (zzg (rdI x0)),false,[wI .i64 x0])
 | _=>none
theorem yxx:OkD Tryz.prog 149 D_zzg:=by unfold D_zzg;exact dk N149.den
theorem yrx {P:List UInt8->Prop} (n:Int) (l:List (List UInt8)) (h0:P []) (h:∀ y∈l,P y):P (zac n l):=by
 unfold zac
 cases hb:zyg n (l.length:Int)with
 | false=>exact h0
 | true=>
  simp only[Bool.not_true,cond_false];rw[List.getD_eq_getElem?_getD];by_cases hi:n.toNat<l.length
  ·rw[List.getElem?_eq_getElem hi];exact h _ (List.getElem_mem hi)
  ·rw[List.getElem?_eq_none (by omega)];exact h0
def zze (a0:Int):(List (List UInt8)):=
 (zzh (zac a0 ([[],[99,97,110,32,112,105,108,108,97,114,32,115,112,97,114],[99,111,110,101,32,112,105,108,108,97,114,32,115,112,97,114],[112,105,108,108,97,114,32,115,112,97,114],[112,105,108,108,97,114,32,115,112,97,114],[112,105,108,108,97,114,32,115,112,97,114],[112,105,108,108,97,114,32,115,112,97,114],[112,105,108,108,97,114,32,115,112,97,114],[115,112,104,101,114,101,32,112,105,108,108,97,114,32,115,112,97,114],[99,97,110,32,99,111,110,101,32,112,105,108,108,97,114,32,115,112,97,114,32,115,112,104,101,114,101]]:List (List UInt8))))
namespace N151
theorem DD:DOk Tryz.prog (Go.Ab.DD [(171,dP D_zac),(202,dP D_zzh)]):=ya ymi.e <| ya yv8.e <| yc _
abbrev dn:=cj @D_zac.eq_1 <| @D_zzh.eq_1
theorem o0 {p:Prop} (h:p:=by(first|(and_intros<;>first|exact yrx (P:=fun y=>y.length<=1048576) _ _ (by simp) (by simp)|exact yrx (P:=fun y=>∀ x∈y,x.toNat<128) _ _ (by simp) (by simp)));first|done|fail):p:=h
theorem lx {p:Prop} (h:p:=by(exact lxx);first|done|fail):p:=h
theorem den (a0:Int)  : Den Tryz.prog 151 [.int .i64 a0] (ownL 9 1 eS (zze a0)):=by
 generalize hR:zze a0=r;unfold zze at hR;refine di Tryz.func151 Tryz.ntmps151 Tryz.results151 ?_;intro c hL hc hk;clear hL;simp only[pars,Nat.zero_add];refine rS ?_;exact retR
end N151
def D_zze : DF
 | [x0]=>some (ownL 9 1 eS (zze (rdI x0)),false,[wI .i64 x0])
 | _=>none
def Dz_zze : DF
 | [x0]=>some (ownL 9 1 eS (zze (rdI x0)),true,[wI .i64 x0])
 | _=>none
theorem yv9:OkD Tryz.prog 151 D_zze:=by unfold D_zze;exact dk N151.den
theorem yw0:OkD Tryz.prog 151 Dz_zze:=by unfold Dz_zze;exact dk N151.den
def zah (a0:Int):(List UInt8):=
 (zac a0 ([[],[99,97,110],[99,111,110,101],[117,112],[98,97,115,101],[100,111,119,110],[112,111,105,110,116],[98,97,108,108,115],[98,97,108,108],[99,114,111,115,115]]:List (List UInt8)))
namespace N152
theorem DD:DOk Tryz.prog (Go.Ab.DD [(171,dP D_zac)]):=ya ymi.e <| yc _
abbrev dn:=@D_zac.eq_1
theorem lx {p:Prop} (h:p:=by(exact lxx);first|done|fail):p:=h
theorem den (a0:Int)  : Den Tryz.prog 152 [.int .i64 a0] (.str (zah a0)):=by
 generalize hR:zah a0=r;unfold zah at hR;refine di Tryz.func152 Tryz.ntmps152 Tryz.results152 ?_;intro c hL hc hk;clear hL;simp only[pars,Nat.zero_add];refine rS ?_;exact retR
end N152
def D_zah : DF
 | [x0]=>some (.str (zah (rdI x0)),false,[wI .i64 x0])
 | _=>none
theorem yyw:OkD Tryz.prog 152 D_zah:=by unfold D_zah;exact dk N152.den
def zod (a0:Mark):Bool:=
 (bif (a0.Kind == 0 && (a0.Colors == [] && (a0.Shape == [] && a0.Topmark == [])))then true else((((zxg a0.Kind) && (a0.Colors == (zzg a0.Kind))) && (zog (zze a0.Kind) a0.Shape)) && ((a0.Topmark == []) || (a0.Topmark == (zah a0.Kind)))))
namespace N97
theorem DD:DOk Tryz.prog (Go.Ab.DD [(148,dP D_zxg),(149,dP D_zzg),(150,dP D_zog),(151,dP D_zze),(152,dP D_zah)]):=ya ycz.e <| ya yxx.e <| ya ypy.e <| ya yv9.e <| ya yyw.e <| yc _
theorem DZ:DOk Tryz.prog (Go.Ab.DD [(148,dP D_zxg),(149,dP D_zzg),(150,dP D_zog),(151,dP Dz_zze),(152,dP D_zah)]):=ya ycz.e <| ya yxx.e <| ya ypy.e <| ya yw0.e <| ya yyw.e <| yc _
abbrev dn:=cj @D_zxg.eq_1 <| cj @D_zzg.eq_1 <| cj @D_zog.eq_1 <| cj @D_zze.eq_1 <| cj @D_zah.eq_1 <| @Dz_zze.eq_1
theorem den (a0:Mark) (hb0:bdMark a0):Den Tryz.prog 97 [.agg (yuf a0)] (.bool (zod a0)):=by
 generalize hR:zod a0=r;unfold zod at hR;refine di Tryz.func97 Tryz.ntmps97 Tryz.results97 ?_;intro c hL hc hk;obtain⟨hL0,_⟩:=hL;have hw0:bwMark a0:=y3e a0 hL0;clear hL0;simp only[pars,Nat.zero_add];iterate 2 refine rS ?_
 refine yb ?_ ?_<;>intro hb
 ·replace hR:=ct hR
  exact retR
 ·replace hR:=cf hR
  refine rZ 32 ?_;exact retE
end N97
def D_zod : DF
 | [x0]=>some (.bool (zod (rdG y2f x0)),false,[wG yuf y2f x0,bdMark (rdG y2f x0)])
 | _=>none
theorem yzp:OkD Tryz.prog 97 D_zod:=by unfold D_zod;exact dk N97.den
def yvo (a0:(List Int)) (a1:(List Int)) (i1:Nat) (s1:Unit):Except (Bool) (Unit):=
 (bif ((a0.getD i1 default) != (a1.getD i1 default))then .error false else .ok ())
def zaf (a0:(List Int)) (a1:(List Int)):Bool:=
 (bif ((a0.length:Int) != (a1.length:Int))then false else(match ye (yvo a0 a1) (a0.length-0) 0 ()with|.error e=>e|.ok s1=>true))
namespace N153
theorem DD:DOk Tryz.prog (Go.Ab.DD []):=yc _
theorem den (a0:(List Int)) (a1:(List Int))  : Den Tryz.prog 153 [encL 1 yy a0,encL 1 yy a1] (.bool (zaf a0 a1)):=by
 generalize hR:zaf a0 a1=r;unfold zaf at hR;refine di Tryz.func153 Tryz.ntmps153 Tryz.results153 ?_;intro c hL hc hk;obtain⟨hL0,hL1,_⟩:=hL;have hw0:=lwA hL0;have hw1:=lwA hL1;clear hL0 hL1;simp only[pars,Nat.zero_add];iterate 2 refine rS ?_
 refine yb ?_ ?_<;>intro hb
 ·replace hR:=ct hR
  exact retR
 ·replace hR:=cf hR
  refine rS ?_;refine AWP.block ?_;generalize hz1:ye (yvo a0 a1) (a0.length-0) 0 ()=z1 at hR;refine AWP.range (yvo a0 a1) (fun i1 s1=>⟨[(0,encL 1 yy a0),(1,encL 1 yy a1),(12,.int .i64 (a0.length:Int)),(13,.int .i64 (i1:Int))],[]⟩) (fun i1 s1=>True) (a0.length) 0 () [] hz1 ot wt sm ?_;clear hz1;intro i1 s1 hi1 hW1 hz1;refine rS ?_;refine AWP.seq ?_;refine yb ?_ ?_<;>intro hb
  ·have hlt1:i1<a0.length:=ot
   rw[yi hlt1]at hz1;simp only[yvo]at hz1;refine rS ?_;refine rD 8 ?_;refine yb ?_ ?_<;>intro hb
   ·simp only[hb,cond_true]at hz1
    refine rS ?_;refine AWP.ret ?_;subst hz1;dsimp only at hR;subst hR;exact es
   ·simp only[hb,cond_false]at hz1
    refine rS ?_;exact⟨_,[],hlt1,wt,hz1,sm⟩
  ·obtain rfl:i1=a0.length:=ot
   exact retX
end N153
def D_zaf : DF
 | [x0,x1]=>some (.bool (zaf (rdL y5b x0) (rdL y5b x1)),false,[wL 1 yy y5b x0,wL 1 yy y5b x1])
 | _=>none
theorem y37:OkD Tryz.prog 153 D_zaf:=by unfold D_zaf;exact dk N153.den
theorem yve (a b:List Int):zaf a b=decide (a=b):=by
 unfold zaf;by_cases hl:a.length=b.length
 ·have h1:((a.length:Int) != (b.length:Int))=false:=by simp[hl]
  rw[h1,cond_false,yee (b:=yvo a b) (fun j => !decide (a.getD j default=b.getD j default)) false (fun j u _ _=>by simp only[yvo,ned])];simp only[Nat.sub_zero,Nat.zero_add];rw[yz0 a b hl];by_cases h:a=b<;>simp[h]
 ·have h1:((a.length:Int) != (b.length:Int))=true:=by simp;omega
  have h2:¬ a=b:=fun e=>hl (by rw[e])
  rw[h1,cond_true,decide_eq_false h2]
def zpe (a0:Int):Bool:=
 (ze a0 1 9999)
namespace N56
theorem DD:DOk Tryz.prog (Go.Ab.DD [(53,dP D_ze)]):=ya yfc.e <| yc _
abbrev dn:=@D_ze.eq_1
abbrev ol:=@ze.eq_1
theorem den (a0:Int)  : Den Tryz.prog 56 [.int .i64 a0] (.bool (zpe a0)):=by
 generalize hR:zpe a0=r;unfold zpe at hR;refine di Tryz.func56 Tryz.ntmps56 Tryz.results56 ?_;intro c hL hc hk;clear hL;simp only[pars,Nat.zero_add];refine rS ?_;exact retR
end N56
def D_zpe : DF
 | [x0]=>some (.bool (zpe (rdI x0)),false,[wI .i64 x0])
 | _=>none
theorem ypq:OkD Tryz.prog 56 D_zpe:=by unfold D_zpe;exact dk N56.den
def zgh (a0:Int):Bool:=
 (ze a0 1 100000000)
namespace N111
theorem DD:DOk Tryz.prog (Go.Ab.DD [(53,dP D_ze)]):=ya yfc.e <| yc _
abbrev dn:=@D_ze.eq_1
abbrev ol:=@ze.eq_1
theorem den (a0:Int)  : Den Tryz.prog 111 [.int .i64 a0] (.bool (zgh a0)):=by
 generalize hR:zgh a0=r;unfold zgh at hR;refine di Tryz.func111 Tryz.ntmps111 Tryz.results111 ?_;intro c hL hc hk;clear hL;simp only[pars,Nat.zero_add];refine rS ?_;exact retR
end N111
def D_zgh : DF
 | [x0]=>some (.bool (zgh (rdI x0)),false,[wI .i64 x0])
 | _=>none
theorem yk8:OkD Tryz.prog 111 D_zgh:=by unfold D_zgh;exact dk N111.den
def zyd (a0:Point):Bool:=
 ((ze a0.X 0 200000) && (ze a0.Y 0 200000))
namespace N95
theorem DD:DOk Tryz.prog (Go.Ab.DD [(53,dP D_ze)]):=ya yfc.e <| yc _
abbrev dn:=@D_ze.eq_1
abbrev ol:=@ze.eq_1
theorem den (a0:Point)  : Den Tryz.prog 95 [.agg (y8e a0)] (.bool (zyd a0)):=by
 generalize hR:zyd a0=r;unfold zyd at hR;refine di Tryz.func95 Tryz.ntmps95 Tryz.results95 ?_;intro c hL hc hk;clear hL;simp only[pars,Nat.zero_add];refine rS ?_;exact retR
end N95
def D_zyd : DF
 | [x0]=>some (.bool (zyd (rdG ykh x0)),false,[wG y8e ykh x0])
 | _=>none
theorem ydq:OkD Tryz.prog 95 D_zyd:=by unfold D_zyd;exact dk N95.den
def zsh (a0:Int):Bool:=
 (ze a0 0 3000)
namespace N96
theorem DD:DOk Tryz.prog (Go.Ab.DD [(53,dP D_ze)]):=ya yfc.e <| yc _
abbrev dn:=@D_ze.eq_1
abbrev ol:=@ze.eq_1
theorem den (a0:Int)  : Den Tryz.prog 96 [.int .i64 a0] (.bool (zsh a0)):=by
 generalize hR:zsh a0=r;unfold zsh at hR;refine di Tryz.func96 Tryz.ntmps96 Tryz.results96 ?_;intro c hL hc hk;clear hL;simp only[pars,Nat.zero_add];refine rS ?_;exact retR
end N96
def D_zsh : DF
 | [x0]=>some (.bool (zsh (rdI x0)),false,[wI .i64 x0])
 | _=>none
theorem yq9:OkD Tryz.prog 96 D_zsh:=by unfold D_zsh;exact dk N96.den
def zbf (a0:Character) (a1:Character):Bool:=
 (((((a0.Kind == a1.Kind) && (zaf a0.Group a1.Group)) && (a0.Letter == a1.Letter)) && (a0.Colors == a1.Colors)) && (a0.Period == a1.Period))
namespace N99
theorem DD:DOk Tryz.prog (Go.Ab.DD [(153,dP D_zaf)]):=ya y37.e <| yc _
abbrev dn:=@D_zaf.eq_1
theorem den (a0:Character) (a1:Character)  : Den Tryz.prog 99 [.agg (yh a0),.agg (yh a1)] (.bool (zbf a0 a1)):=by
 generalize hR:zbf a0 a1=r;unfold zbf at hR;refine di Tryz.func99 Tryz.ntmps99 Tryz.results99 ?_;intro c hL hc hk;obtain⟨hL0,hL1,_⟩:=hL;have hw0:bwCharacter a0:=yp a0 hL0;have hw1:bwCharacter a1:=yp a1 hL1;clear hL0 hL1;simp only[pars,Nat.zero_add];refine rS ?_;exact retR
end N99
def D_zbf : DF
 | [x0,x1]=>some (.bool (zbf (rdG yd x0) (rdG yd x1)),false,[wG yh yd x0,wG yh yd x1])
 | _=>none
theorem ydz:OkD Tryz.prog 99 D_zbf:=by unfold D_zbf;exact dk N99.den
def zhh (a0:Aid):Bool:=
 (((zbf a0.Light ({ Kind:=0,Group:=[],Letter:=[],Colors:=[],Period:=0:Character })) && ((a0.Sectors.length:Int) == 0)) && (a0.Intensity == 0))
namespace N98
theorem DD:DOk Tryz.prog (Go.Ab.DD [(99,dP D_zbf)]):=ya ydz.e <| yc _
abbrev dn:=@D_zbf.eq_1
theorem den (a0:Aid)  : Den Tryz.prog 98 [.agg (eAid a0)] (.bool (zhh a0)):=by
 generalize hR:zhh a0=r;unfold zhh at hR;refine di Tryz.func98 Tryz.ntmps98 Tryz.results98 ?_;intro c hL hc hk;obtain⟨hL0,_⟩:=hL;have hw0:bwAid a0:=yr a0 hL0;clear hL0;simp only[pars,Nat.zero_add];refine rS ?_;exact retR
end N98
def D_zhh : DF
 | [x0]=>some (.bool (zhh (rdG dAid x0)),false,[wG eAid dAid x0])
 | _=>none
theorem yt6:OkD Tryz.prog 98 D_zhh:=by unfold D_zhh;exact dk N98.den
def y43 (a0:(List Aid)) (a1:Int) (s1:Int):Except (Sum ((Int×Bool)) (Int)) (Int):=
 (bif (decide (s1<(a0.length:Int)) && decide (((a0.getD ((s1).toNat) default).Number)<a1))then .ok (IntKind.wrap .i64 (s1+1))else .error (.inr s1))
def zt (a0:(List Aid)) (a1:Int):(Int×Bool):=
 (match yab (y43 a0 a1) ((a0.length-((0:Int)).toNat)+1) 0 with|.error (.inl e)=>e|.error (.inr s1)=>(s1,(decide (s1<(a0.length:Int)) && (((a0.getD ((s1).toNat) default).Number) == a1)))|.ok _=>default)
namespace N46
theorem DD:DOk Tryz.prog (Go.Ab.DD []):=yc _
theorem den (a0:(List Aid)) (a1:Int)  : Den Tryz.prog 46 [encL 16 eAid a0,.int .i64 a1] (.tup [.int .i64 ((zt a0 a1).1),.bool ((zt a0 a1).2)]):=by
 generalize hR:zt a0 a1=r;unfold zt at hR;refine di Tryz.func46 Tryz.ntmps46 Tryz.results46 ?_;intro c hL hc hk;obtain⟨hL0,hL1,_⟩:=hL;have hw0:=lwA hL0;have hw1:∀ v∈a0,bwAid v:=fun v hv=>yr v ((yj hL0).2 v hv)
 clear hL0 hL1;simp only[pars,Nat.zero_add];iterate 2 refine rS ?_
 refine AWP.seq ?_;refine AWP.block ?_;generalize hz1:yab (y43 a0 a1) ((a0.length-((0:Int)).toNat)+1) 0=z1 at hR;refine AWP.whileW (y43 a0 a1) (fun s1=>⟨[(0,encL 16 eAid a0),(1,.int .i64 a1),(6,.int .i64 s1)],[]⟩) (fun s1=>0<=s1/\s1<=a0.length) (fun s1=>a0.length-(s1).toNat) ((a0.length-((0:Int)).toNat)+1) 0 [] hz1 m0 wt sm ?_;clear hz1;intro s1 k1 hW1 hm1 hz1;simp only[y43]at hz1;refine rS ?_;refine yb ?_ ?_<;>intro hb
 ·simp only[hb,cond_true]at hz1
  refine rS ?_;exact⟨_,[],ms,wt,hz1,sm⟩
 ·simp only[hb,cond_false]at hz1
  refine AWP.exit ?_;refine yf ?_;subst hz1;dsimp only at hR;refine AWP.seq ?_;refine AWP.regP mixed G_ok DD hc 15 [0,1,2,3,4,5,6,7,8,9,10,11,12,13] (.alt 14 [] [6,7,8,9,10,11,12,13] .leaf .stop) (by kernel_rfl) (by kernel_rfl) (by kernel_rfl) (fun K hK => ?_);simp only[y1k,runN,runP,y3c,nthO,ea,absV,yoc,cput,gv,sv,dn,reduceCtorEq,reduceIte,Nat.reduceBEq,Nat.reduceAdd,Nat.reduceEqDiff,Nat.reduceLT,Nat.reduceLeDiff,Nat.reduceMul,Nat.reduceSub,BEq.rfl,beq_self_eq_true,Int.reduceToNat];repeat' apply And.intro
  all_goals first|refine hK _ ?_|exact ot
  all_goals clear hK K
  exact retE
end N46
def D_zt : DF
 | [x0,x1]=>some (.tup [.int .i64 ((zt (rdL dAid x0) (rdI x1)).1),.bool ((zt (rdL dAid x0) (rdI x1)).2)],false,[wL 16 eAid dAid x0,wI .i64 x1])
 | _=>none
theorem y5q:OkD Tryz.prog 46 D_zt:=by unfold D_zt;exact dk N46.den
def upto (l:List Aid) (n:Int):Nat:=(l.takeWhile (fun x=>decide (x.Number<n))).length
theorem ypm (l:List Aid) (n:Int):upto l n<=l.length:=by unfold upto;exact(List.takeWhile_prefix _).length_le
theorem y3u {ρ : Type} (l : List Aid) (n : Int) (hl : l.length < 9223372036854775808) (b : Int -> Except (Sum ρ Int) Int)
  (hb:∀ s,b s=bif (decide (s<(l.length:Int)) && decide ((l.getD s.toNat default).Number<n))then .ok (IntKind.wrap .i64 (s+1))else .error (.inr s)) :
  ∀ (r p:List Aid) (k:Nat),l=p++r->r.length<k->yab b k (p.length:Int)=.error (.inr ((p.length+upto r n:Nat):Int))
 | _,_,0,_,h=>absurd h (Nat.not_lt_zero _)
 | [],p,k+1,e,_=>by
  subst e;simp only[yab,hb,List.append_nil,Int.lt_irrefl,decide_false,Bool.false_and,cond_false];simp[upto]
 | x::r,p,k+1,e,hk=>by
  have hg:l.getD ((p.length:Int)).toNat default=x:=by subst e;simp
  have hlt:decide ((p.length:Int)<(l.length:Int))=true:=by subst e;simp;omega
  simp only[yab,hb,hg,hlt,Bool.true_and]
  cases hx:decide (x.Number<n)with
  | false=>simp[upto,List.takeWhile_cons,hx]
  | true=>
   have hw:IntKind.wrap .i64 ((p.length:Int)+1)=((p++[x]).length:Int):=by
    have:p.length<l.length:=by subst e;simp
    have e2:(p++[x]).length=p.length+1:=by simp
    rw[IntKind.wrap_i64,e2];omega
   simp only[cond_true,hw];rw[y3u l n hl b hb r (p++[x]) k (by simp[e]) (by simp at hk;omega)]
   have e3:(p++[x]).length+upto r n=p.length+upto (x::r) n:=by
    simp[upto,List.takeWhile_cons,hx];omega
   rw[e3]
theorem ysy (l:List Aid) (n:Int) (hl:l.length<9223372036854775808):zt l n=((upto l n:Int),decide (upto l n<l.length) && ((l.getD (upto l n) default).Number == n)):=by
 unfold zt;have:=y3u l n hl (y43 l n) (fun s=>rfl) l [] (l.length-(0:Int).toNat+1) rfl (by simp);simp only[List.length_nil,Nat.zero_add]at this;have e0:((0:Nat):Int)=0:=rfl;simp only[e0]at this;rw[this];simp
theorem yzq (l:List Aid) (n:Int) (hl:l.length<9223372036854775808):0<=(zt l n).1/\(zt l n).1<=l.length/\((zt l n).2=true->(zt l n).1<l.length):=by
 rw[ysy l n hl];have:=ypm l n;refine⟨by simp only;omega,by simp only;omega,fun h => ?_⟩;simp only[Bool.and_eq_true,decide_eq_true_eq]at h;simp only;omega
def zth (a0:(List Int)):(List Int):=
 (List.replicate 0 (default:Int))++a0
namespace N48
theorem DD:DOk Tryz.prog (Go.Ab.DD []):=yc _
theorem den (a0:(List Int)) (hb0:a0.length<1099511627776):Den Tryz.prog 48 [encL 1 yy a0] (ownL 2 1 yy (zth a0)):=by
 generalize hR:zth a0=r;unfold zth at hR;refine di Tryz.func48 Tryz.ntmps48 Tryz.results48 ?_;intro c hL hc hk;obtain⟨hL0,_⟩:=hL;have hw0:=lwA hL0;clear hL0;simp only[pars,Nat.zero_add];refine rS ?_;exact retR
end N48
def D_zth : DF
 | [x0]=>some (ownL 2 1 yy (zth (rdL y5b x0)),false,[wL 1 yy y5b x0,(rdL y5b x0).length<1099511627776])
 | _=>none
theorem yd9:OkD Tryz.prog 48 D_zth:=by unfold D_zth;exact dk N48.den
def zuh (a0:(List Sector)):(List Sector):=
 (List.replicate 0 (default:Sector))++a0
namespace N49
theorem DD:DOk Tryz.prog (Go.Ab.DD []):=yc _
theorem den (a0:(List Sector)) (hb0:a0.length<1099511627776) (hb1:∀ v∈a0,bdSector v):Den Tryz.prog 49 [encL 3 yl a0] (ownL 97 3 yl (zuh a0)):=by
 generalize hR:zuh a0=r;unfold zuh at hR;refine di Tryz.func49 Tryz.ntmps49 Tryz.results49 ?_;intro c hL hc hk;obtain⟨hL0,_⟩:=hL;have hw0:=lwA hL0;have hw1:∀ v∈a0,bwSector v:=fun v hv=>y4 v ((yj hL0).2 v hv)
 clear hL0;simp only[pars,Nat.zero_add];refine rS ?_;exact retR
end N49
def D_zuh : DF
 | [x0]=>some (ownL 97 3 yl (zuh (rdL yu x0)),false,[wL 3 yl yu x0,(rdL yu x0).length<1099511627776,∀ v∈(rdL yu x0),bdSector v])
 | _=>none
theorem yj8:OkD Tryz.prog 49 D_zuh:=by unfold D_zuh;exact dk N49.den
def zfd (a0:Aid):Aid:=
 { Number:=a0.Number,Name:=a0.Name,At:=a0.At,Height:=a0.Height,Mark:=a0.Mark,Light:={ Kind:=a0.Light.Kind,Group:=(zth a0.Light.Group),Letter:=a0.Light.Letter,Colors:=a0.Light.Colors,Period:=a0.Light.Period:Character },Sectors:=(zuh a0.Sectors),Intensity:=a0.Intensity:Aid }
namespace N22
theorem DD:DOk Tryz.prog (Go.Ab.DD [(48,dP D_zth),(49,dP D_zuh)]):=ya yd9.e <| ya yj8.e <| yc _
abbrev dn:=cj @D_zth.eq_1 <| @D_zuh.eq_1
theorem den (a0:Aid) (hb0:bdAid a0):Den Tryz.prog 22 [.agg (eAid a0)] (.agg (ytb (zfd a0))):=by
 generalize hR:zfd a0=r;unfold zfd at hR;refine di Tryz.func22 Tryz.ntmps22 Tryz.results22 ?_;intro c hL hc hk;obtain⟨hL0,_⟩:=hL;have hw0:bwAid a0:=yr a0 hL0;clear hL0;simp only[pars,Nat.zero_add];refine rS ?_;refine AWP.seq ?_;refine AWP.regP mixed G_ok DD hc 9 [0,1,2,4,5] (.alt 3 [7,8] [4,5,7,8] (.alt 6 [] [7,8] .leaf .stop) .stop) (by kernel_rfl) (by kernel_rfl) (by kernel_rfl) (fun K hK => ?_);simp only[y1k,runN,runP,y3c,nthO,ea,absV,yoc,cput,gv,sv,dn,reduceCtorEq,reduceIte,Nat.reduceBEq,Nat.reduceAdd,Nat.reduceEqDiff,Nat.reduceLT,Nat.reduceLeDiff,Nat.reduceMul,Nat.reduceSub,BEq.rfl,beq_self_eq_true,Int.reduceToNat];repeat' apply And.intro
 all_goals first|refine hK _ ?_|exact ot
 all_goals clear hK K
 exact retR
end N22
def D_zfd : DF
 | [x0]=>some (.agg (ytb (zfd (rdG dAid x0))),false,[wG eAid dAid x0,bdAid (rdG dAid x0)])
 | _=>none
theorem y4k:OkD Tryz.prog 22 D_zfd:=by unfold D_zfd;exact dk N22.den
def yao (a0:(List Aid)) (i1:Nat) (s1:List Aid):Except ((List Aid)) (List Aid):=
 .ok (s1++[zfd (a0.getD i1 default)])
def zbc (a0:(List Aid)):(List Aid):=
 (match ye (yao a0) (a0.length-0) 0 (List.replicate 0 (default:Aid))with|.error e=>e|.ok s1=>s1)
namespace N24
theorem DD:DOk Tryz.prog (Go.Ab.DD [(22,dP D_zfd)]):=ya y4k.e <| yc _
abbrev dn:=@D_zfd.eq_1
theorem den (a0:(List Aid)) (hb0:a0.length<1099511627776) (hb1:∀ v∈a0,bdAid v) (hp0:a0.length<=1073741824):Den Tryz.prog 24 [encL 16 eAid a0] (ownL 56 16 ytb (zbc a0)):=by
 generalize hR:zbc a0=r;unfold zbc at hR;refine di Tryz.func24 Tryz.ntmps24 Tryz.results24 ?_;intro c hL hc hk;obtain⟨hL0,_⟩:=hL;have hw0:=lwA hL0;have hw1:∀ v∈a0,bwAid v:=fun v hv=>yr v ((yj hL0).2 v hv)
 clear hL0;simp only[pars,Nat.zero_add];iterate 3 refine rS ?_
 refine AWP.block ?_;generalize hz1:ye (yao a0) (a0.length-0) 0 (List.replicate 0 (default:Aid))=z1 at hR;refine AWP.range (yao a0) (fun i1 s1=>⟨[(3,.ref 0 16 0 s1.length),(10,encL 16 eAid a0),(11,.int .i64 (a0.length:Int)),(12,.int .i64 (i1:Int))],[.arr 56 16 s1.length (fun j=>ytb (s1.getD j default))]⟩) (fun i1 s1=>s1.length<=(List.replicate 0 (default:Aid)).length+1 * i1) (a0.length) 0 (List.replicate 0 (default:Aid)) [0] hz1 ot wt sm ?_;clear hz1;intro i1 s1 hi1 hW1 hz1;refine rS ?_;refine AWP.seq ?_;refine yb ?_ ?_<;>intro hb
 ·have hlt1:i1<a0.length:=ot
  rw[yi hlt1]at hz1;simp only[yao]at hz1;iterate 3 refine rS ?_
  exact⟨_,[5],hlt1,wt,hz1,sm⟩
 ·obtain rfl:i1=a0.length:=ot
  exact retX
end N24
def D_zbc : DF
 | [x0]=>some (ownL 56 16 ytb (zbc (rdL dAid x0)),false,[wL 16 eAid dAid x0,(rdL dAid x0).length<1099511627776,∀ v∈(rdL dAid x0),bdAid v,(rdL dAid x0).length<=1073741824])
 | _=>none
theorem ygl:OkD Tryz.prog 24 D_zbc:=by unfold D_zbc;exact dk N24.den
def yto (a0:(List Sector)) (a1:(List Sector)) (i1:Nat) (s1:Unit):Except (Bool) (Unit):=
 (bif (!(((a0.getD i1 default).From) == ((a1.getD i1 default).From) && (((a0.getD i1 default).To) == ((a1.getD i1 default).To) && ((a0.getD i1 default).Color) == ((a1.getD i1 default).Color))))then .error false else .ok ())
def zcf (a0:(List Sector)) (a1:(List Sector)):Bool:=
 (bif ((a0.length:Int) != (a1.length:Int))then false else(match ye (yto a0 a1) (a0.length-0) 0 ()with|.error e=>e|.ok s1=>true))
namespace N100
theorem DD:DOk Tryz.prog (Go.Ab.DD []):=yc _
theorem den (a0:(List Sector)) (a1:(List Sector))  : Den Tryz.prog 100 [encL 3 yl a0,encL 3 yl a1] (.bool (zcf a0 a1)):=by
 generalize hR:zcf a0 a1=r;unfold zcf at hR;refine di Tryz.func100 Tryz.ntmps100 Tryz.results100 ?_;intro c hL hc hk;obtain⟨hL0,hL1,_⟩:=hL;have hw0:=lwA hL0;have hw1:∀ v∈a0,bwSector v:=fun v hv=>y4 v ((yj hL0).2 v hv)
 have hw2:=lwA hL1;have hw3:∀ v∈a1,bwSector v:=fun v hv=>y4 v ((yj hL1).2 v hv)
 clear hL0 hL1;simp only[pars,Nat.zero_add];iterate 2 refine rS ?_
 refine yb ?_ ?_<;>intro hb
 ·replace hR:=ct hR
  exact retR
 ·replace hR:=cf hR
  refine rS ?_;refine AWP.block ?_;generalize hz1:ye (yto a0 a1) (a0.length-0) 0 ()=z1 at hR;refine AWP.range (yto a0 a1) (fun i1 s1=>⟨[(0,encL 3 yl a0),(1,encL 3 yl a1),(12,.int .i64 (a0.length:Int)),(13,.int .i64 (i1:Int))],[]⟩) (fun i1 s1=>True) (a0.length) 0 () [] hz1 ot wt sm ?_;clear hz1;intro i1 s1 hi1 hW1 hz1;refine rS ?_;refine AWP.seq ?_;refine yb ?_ ?_<;>intro hb
  ·have hlt1:i1<a0.length:=ot
   rw[yi hlt1]at hz1;simp only[yto]at hz1;refine rS ?_;refine rD 8 ?_;refine yb ?_ ?_<;>intro hb
   ·simp only[hb,cond_true]at hz1
    refine rS ?_;refine AWP.ret ?_;subst hz1;dsimp only at hR;subst hR;exact es
   ·simp only[hb,cond_false]at hz1
    refine rS ?_;exact⟨_,[],hlt1,wt,hz1,sm⟩
  ·obtain rfl:i1=a0.length:=ot
   exact retX
end N100
def D_zcf : DF
 | [x0,x1]=>some (.bool (zcf (rdL yu x0) (rdL yu x1)),false,[wL 3 yl yu x0,wL 3 yl yu x1])
 | _=>none
theorem yu4:OkD Tryz.prog 100 D_zcf:=by unfold D_zcf;exact dk N100.den
def zsg (a0:Aid) (a1:Aid):Bool:=
 ((((((((a0.Number == a1.Number) && (a0.Name == a1.Name)) && (a0.At.X == a1.At.X && a0.At.Y == a1.At.Y)) && (a0.Height == a1.Height)) && (a0.Mark.Kind == a1.Mark.Kind && (a0.Mark.Colors == a1.Mark.Colors && (a0.Mark.Shape == a1.Mark.Shape && a0.Mark.Topmark == a1.Mark.Topmark)))) && (zbf a0.Light a1.Light)) && (zcf a0.Sectors a1.Sectors)) && (a0.Intensity == a1.Intensity))
namespace N47
theorem DD:DOk Tryz.prog (Go.Ab.DD [(100,dP D_zcf),(99,dP D_zbf)]):=ya yu4.e <| ya ydz.e <| yc _
abbrev dn:=cj @D_zcf.eq_1 <| @D_zbf.eq_1
set_option maxHeartbeats 4000000 in
set_option maxRecDepth 20000 in
theorem den (a0:Aid) (a1:Aid)  : Den Tryz.prog 47 [.agg (eAid a0),.agg (eAid a1)] (.bool (zsg a0 a1)):=by
 generalize hR:zsg a0 a1=r;unfold zsg at hR;refine di Tryz.func47 Tryz.ntmps47 Tryz.results47 ?_;intro c hL hc hk;obtain⟨hL0,hL1,_⟩:=hL;have hw0:bwAid a0:=yr a0 hL0;have hw1:bwAid a1:=yr a1 hL1;clear hL0 hL1;simp only[pars,Nat.zero_add];refine rS ?_;exact retR
end N47
def D_zsg : DF
 | [x0,x1]=>some (.bool (zsg (rdG dAid x0) (rdG dAid x1)),false,[wG eAid dAid x0,wG eAid dAid x1])
 | _=>none
theorem yk7:OkD Tryz.prog 47 D_zsg:=by unfold D_zsg;exact dk N47.den
def zdf (a0:Int):Bool:=
 (ze a0 1 3)
namespace N26
theorem DD:DOk Tryz.prog (Go.Ab.DD [(53,dP D_ze)]):=ya yfc.e <| yc _
abbrev dn:=@D_ze.eq_1
abbrev ol:=@ze.eq_1
theorem den (a0:Int)  : Den Tryz.prog 26 [.int .i64 a0] (.bool (zdf a0)):=by
 generalize hR:zdf a0=r;unfold zdf at hR;refine di Tryz.func26 Tryz.ntmps26 Tryz.results26 ?_;intro c hL hc hk;clear hL;simp only[pars,Nat.zero_add];refine rS ?_;exact retR
end N26
def D_zdf : DF
 | [x0]=>some (.bool (zdf (rdI x0)),false,[wI .i64 x0])
 | _=>none
theorem y9x:OkD Tryz.prog 26 D_zdf:=by unfold D_zdf;exact dk N26.den
def zzd (a0:(List Aid)) (a1:Aid):(Bool×Bool):=
 ((zt a0 a1.Number).2,((zt a0 a1.Number).2 && (zsg (a0.getD (((zt a0 a1.Number).1).toNat) default) a1)))
namespace N21
theorem DD:DOk Tryz.prog (Go.Ab.DD [(46,dP D_zt),(47,dP D_zsg)]):=ya y5q.e <| ya yk7.e <| yc _
abbrev dn:=cj @D_zt.eq_1 <| @D_zsg.eq_1
theorem gr {p:Prop} (h:p:=by(grind [yzq]);first|done|fail):p:=h
theorem den (a0:(List Aid)) (a1:Aid)  : Den Tryz.prog 21 [encL 16 eAid a0,.agg (eAid a1)] (.tup [.bool ((zzd a0 a1).1),.bool ((zzd a0 a1).2)]):=by
 generalize hR:zzd a0 a1=r;unfold zzd at hR;refine di Tryz.func21 Tryz.ntmps21 Tryz.results21 ?_;intro c hL hc hk;obtain⟨hL0,hL1,_⟩:=hL;have hw0:=lwA hL0;have hw1:∀ v∈a0,bwAid v:=fun v hv=>yr v ((yj hL0).2 v hv)
 have hw2:bwAid a1:=yr a1 hL1;clear hL0 hL1;simp only[pars,Nat.zero_add];have hix:=yzq a0 a1.Number (by omega);iterate 2 refine rS ?_
 refine AWP.seq ?_;refine AWP.regP mixed G_ok DD hc 11 [0,1,2,3,4,5,6,7,8,9] (.alt 10 [] [9] .leaf .stop) (by kernel_rfl) (by kernel_rfl) (by kernel_rfl) (fun K hK => ?_);simp only[y1k,runN,runP,y3c,nthO,ea,absV,yoc,cput,gv,sv,dn,reduceCtorEq,reduceIte,Nat.reduceBEq,Nat.reduceAdd,Nat.reduceEqDiff,Nat.reduceLT,Nat.reduceLeDiff,Nat.reduceMul,Nat.reduceSub,BEq.rfl,beq_self_eq_true,Int.reduceToNat];repeat' apply And.intro
 all_goals first|refine hK _ ?_|exact ot
 all_goals clear hK K
 exact retE
end N21
def D_zzd : DF
 | [x0,x1]=>some (.tup [.bool ((zzd (rdL dAid x0) (rdG dAid x1)).1),.bool ((zzd (rdL dAid x0) (rdG dAid x1)).2)],false,[wL 16 eAid dAid x0,wG eAid dAid x1])
 | _=>none
theorem yyx:OkD Tryz.prog 21 D_zzd:=by unfold D_zzd;exact dk N21.den
def jl : List (List UInt8) -> Nat
 | []=>0
 | x::r=>x.length+jl r
theorem y9j (s : List UInt8) : ∀ r : List (List UInt8), (Lib.joinTail s r).length = jl r + r.length * s.length
 | []=>by simp[Lib.joinTail,jl]
 | x::r=>by
  have ih:=y9j s r;unfold Lib.joinTail at ih ⊢;simp only[List.map_cons,List.flatten_cons,List.length_append,List.length_cons,jl,ih,Nat.add_mul];omega
theorem yfe (s:List UInt8) (xs:List (List UInt8)):(Lib.join xs s).length<=jl xs+xs.length * s.length:=by
 cases xs with
 | nil=>simp[Lib.join_nil]
 | cons x r=>
  rw[Lib.join_cons,List.length_append,y9j];simp only[jl,List.length_cons,Nat.add_mul];omega
theorem yd4 : ∀ (k n : Nat), n < 10 ^ (k + 1) -> (Lib.decDigits n).length <= k + 1
 | 0,n,h=>by rw[Lib.decDigits_one (by simpa using h)];simp
 | k+1,n,h=>by
  by_cases h10:n<10
  ·rw[Lib.decDigits_one h10];simp
  ·rw[yyb _ h10,List.length_append,List.length_singleton]
   have:=yd4 k (n / 10) (by rw[Nat.div_lt_iff_lt_mul (by decide)];rwa [Nat.pow_succ]at h);omega
theorem yvd (n:Int) (k:Nat) (h0:0<=n) (h:n<((10 ^ (k+1):Nat):Int)):(Lib.itoa n).length<=k+1:=by
 rw[y3f (by omega)];exact yd4 k _ (by omega)
theorem y2z {α:Type} (c:UInt8) (d:α) (f:α->List UInt8) (x:α) (r:List α):(List.range' 1 r.length).flatMap (fun j=>c::f ((x::r).getD j d))=Lib.joinTail [c] (r.map f):=by
 unfold Lib.joinTail;rw[List.map_map, <- List.flatMap_def]
 have h:(List.range' 1 r.length).flatMap (fun j=>c::f ((x::r).getD j d))=(List.range' 0 r.length).flatMap (fun j=>c::f (r.getD j d)):=by
  rw[List.flatMap_def,List.flatMap_def];congr 1
  apply List.ext_getElem
  ·simp
  ·intro i h1 h2
   simp[List.getElem_range',Nat.add_comm 1 i]
 rw[h];rw[List.flatMap_def,List.flatMap_def];congr 1
 apply List.ext_getElem
 ·simp
 ·intro i h1 h2
  simp only[List.length_map]at h2;simp[List.getD_eq_getElem?_getD,h2]
def zbd (a0:Int):(List UInt8):=
 (zac a0 ([[],[70],[79,99],[73,115,111],[70,108],[76,70,108],[81],[86,81],[77,111]]:List (List UInt8)))
namespace N170
theorem DD:DOk Tryz.prog (Go.Ab.DD [(171,dP D_zac)]):=ya ymi.e <| yc _
abbrev dn:=@D_zac.eq_1
theorem lx {p:Prop} (h:p:=by(exact lxx);first|done|fail):p:=h
theorem den (a0:Int)  : Den Tryz.prog 170 [.int .i64 a0] (.str (zbd a0)):=by
 generalize hR:zbd a0=r;unfold zbd at hR;refine di Tryz.func170 Tryz.ntmps170 Tryz.results170 ?_;intro c hL hc hk;clear hL;simp only[pars,Nat.zero_add];refine rS ?_;exact retR
end N170
def D_zbd : DF
 | [x0]=>some (.str (zbd (rdI x0)),false,[wI .i64 x0])
 | _=>none
theorem y2w:OkD Tryz.prog 170 D_zbd:=by unfold D_zbd;exact dk N170.den
theorem yzw (k:Int):(zbd k).length<=3:=by
 unfold zbd zac;simp only[Bool.cond_eq_ite];split
 ·simp
 ·rw[List.getD_eq_getElem?_getD]
  have h:∀ x∈([[],[70],[79,99],[73,115,111],[70,108],[76,70,108],[81],[86,81],[77,111]]:List (List UInt8)),x.length<=3:=by decide
  cases hg:([[],[70],[79,99],[73,115,111],[70,108],[76,70,108],[81],[86,81],[77,111]]:List (List UInt8))[k.toNat]? with
  | none=>show(0:Nat)<=3;omega
  | some x=>exact h x (List.mem_of_getElem? hg)
theorem ypn (xs:List (List UInt8)) (h:∀ v∈xs,v.length<=20):(zsb xs [43]).length<=21 * xs.length/\(Go.Lib.join xs [43]).length<=21 * xs.length:=by
 have h1:=y5k [43] xs 20 h;simp only[List.length_singleton]at h1;exact⟨by show(Go.Lib.join xs [43]).length<=_;omega,by omega⟩
def yzo (a0:Character) (i1:Nat) (s1:List (List UInt8)):Except ((List UInt8)) (List (List UInt8)):=
 .ok (s1++[(zh (a0.Group.getD i1 default))])
def zfe (a0:Character):(List UInt8):=
 (bif (a0.Kind == 8)then(((zbd a0.Kind)++[40])++a0.Letter)++[41]else(bif decide (0<(a0.Group.length:Int))then(match ye (yzo a0) (a0.Group.length-0) 0 ([]:List (List UInt8))with|.error e=>e|.ok s1=>(bif (a0.Letter != [])then((zbd a0.Kind)++(([40]++(zsb s1 [43]))++[41]))++[43,76,70,108]else(zbd a0.Kind)++(([40]++(zsb s1 [43]))++[41])))else(bif (a0.Letter != [])then(zbd a0.Kind)++[43,76,70,108]else(zbd a0.Kind))))
namespace N114
theorem DD:DOk Tryz.prog (Go.Ab.DD [(170,dP D_zbd),(58,dP D_zsb),(59,dP D_zh)]):=ya y2w.e <| ya y6i.e <| ya ygf.e <| yc _
abbrev dn:=cj @D_zbd.eq_1 <| cj @D_zsb.eq_1 <| @D_zh.eq_1
theorem gr {p:Prop} (h:p:=by(grind [y0c]);first|done|fail):p:=h
theorem o0 {p:Prop} (h:p:=by(first|(have h9:=ypn s1 (by first|exact hW1|exact hW1.2);first|omega|(simp only[ob,ln,List.length_singleton,List.length_append,List.length_cons,List.length_nil]at *;omega)|(and_intros<;>first|omega|(simp only[ob,ln,List.length_singleton,List.length_append,List.length_cons,List.length_nil]at *;omega)))|(have h9:=hg9 i1;and_intros<;>omega)|(simp only[ob,ln,List.length_singleton,List.length_append,List.length_cons,List.length_nil]at *;omega));first|done|fail):p:=h
theorem o1 {p:Prop} (h:p:=by(first|(have h9:=ypn s1 hW1.2;have h8:=hW1.1;simp only[ob,ln,List.length_singleton,List.length_append,List.length_cons,List.length_nil]at *;omega)|(have h9:=hg9 i1;omega));first|done|fail):p:=h
set_option maxHeartbeats 1000000 in
set_option maxRecDepth 20000 in
theorem den (a0:Character) (hb0:bdCharacter a0) (hp0:a0.Group.length<=4) (hp1:∀ v∈a0.Group,1<=v/\v<=9):Den Tryz.prog 114 [.agg (yh a0)] (.str (zfe a0)):=by
 generalize hR:zfe a0=r;unfold zfe at hR;refine di Tryz.func114 Tryz.ntmps114 Tryz.results114 ?_;intro c hL hc hk;obtain⟨hL0,_⟩:=hL;have hw0:bwCharacter a0:=yp a0 hL0;clear hL0;simp only[pars,Nat.zero_add];have hg9:∀ i:Nat,0<=a0.Group.getD i default/\a0.Group.getD i default<=9:=fun i=>yvg hp1 i
 have hk9:=yzw a0.Kind;iterate 3 refine rS ?_
 refine yb ?_ ?_<;>intro hb
 ·replace hR:=ct hR
  exact retR
 ·replace hR:=cf hR
  refine rS ?_;refine yb ?_ ?_<;>intro hb
  ·replace hR:=ct hR
   iterate 2 refine rS ?_
   refine AWP.block ?_;refine AWP.lensS 20 rfl (fun hLn1 => ?_);generalize hz1:ye (yzo a0) (a0.Group.length-0) 0 ([]:List (List UInt8))=z1 at hR;refine AWP.range (yzo a0) (fun i1 s1=>⟨[(1,.ptr 0 0),(3,.str (zbd a0.Kind)),(4,.ref 1 1 0 s1.length),(25,encL 1 yy a0.Group),(26,.int .i64 (a0.Group.length:Int)),(27,.int .i64 (i1:Int))],[.box [.int .i64 a0.Kind,encL 1 yy a0.Group,.str a0.Letter,.str a0.Colors,.int .i64 a0.Period],.arr 9 1 s1.length (fun j=>eS (s1.getD j default))]⟩) (fun i1 s1=>s1.length<=([]:List (List UInt8)).length+1 * i1/\∀ v∈s1,v.length<=20) (a0.Group.length) 0 ([]:List (List UInt8)) [0,1] hz1 ot wt sm ?_;clear hz1;intro i1 s1 hi1 hW1 hz1;refine rS ?_;refine AWP.seq ?_;refine yb ?_ ?_<;>intro hb
   ·have hlt1:i1<a0.Group.length:=ot
    rw[yi hlt1]at hz1;simp only[yzo]at hz1;iterate 3 refine rS ?_
    exact⟨_,[0,3],hlt1,by(and_intros<;>first|(simp only[ln,List.length_append,List.length_singleton,List.length_nil]at *;omega)|(intro v hv;exact(List.mem_append.1 hv).elim (fun h=>by first|exact hW1 v h|exact hW1.2 v h|exact hW1.2.2 v h) (fun h=>by rw[List.mem_singleton]at h;subst h;exact yfd _ (by have:=hg9 i1;omega) (by have:=hg9 i1;omega)))),hz1,sm⟩
   ·obtain rfl:i1=a0.Group.length:=ot
    rw[ybb (Nat.le_refl _)]at hz1;subst hz1;dsimp only at hR;refine AWP.exit ?_;refine yf ?_;iterate 2 refine rS ?_
    refine yb ?_ ?_<;>intro hb
    ·replace hR:=ct hR
     refine rS ?_;exact retR
    ·replace hR:=cf hR
     exact retR
  ·replace hR:=cf hR
   refine rS ?_;refine yb ?_ ?_<;>intro hb
   ·replace hR:=ct hR
    refine rS ?_;exact retR
   ·replace hR:=cf hR
    exact retR
end N114
def D_zfe : DF
 | [x0]=>some (.str (zfe (rdG yd x0)),false,[wG yh yd x0,bdCharacter (rdG yd x0),(rdG yd x0).Group.length<=4,∀ v∈(rdG yd x0).Group,1<=v/\v<=9])
 | _=>none
theorem yb7:OkD Tryz.prog 114 D_zfe:=by unfold D_zfe;exact dk N114.den
def zef (a0:Int):(List UInt8):=
 (bif ((a0.tmod 10) == 0)then(zh (IntKind.wrap .i64 (a0.tdiv 10)))else((zh (IntKind.wrap .i64 (a0.tdiv 10)))++[46])++(zh (a0.tmod 10)))
namespace N115
theorem DD:DOk Tryz.prog (Go.Ab.DD [(59,dP D_zh)]):=ya ygf.e <| yc _
abbrev dn:=@D_zh.eq_1
theorem gr {p:Prop} (h:p:=by(grind [y0c]);first|done|fail):p:=h
set_option maxHeartbeats 400000 in
set_option maxRecDepth 20000 in
theorem den (a0:Int) (hp0 : -9223372036854775808<=a0) (hp1:a0<=9223372036854775807):Den Tryz.prog 115 [.int .i64 a0] (.str (zef a0)):=by
 generalize hR:zef a0=r;unfold zef at hR;refine di Tryz.func115 Tryz.ntmps115 Tryz.results115 ?_;intro c hL hc hk;clear hL;simp only[pars,Nat.zero_add];have h1:=ypo (a0.tdiv 10);have ht:=yfl a0;have h2:=yfd (a0.tmod 10) (by omega) (by omega);iterate 2 refine rS ?_
 refine yb ?_ ?_<;>intro hb
 ·replace hR:=ct hR
  exact retR
 ·replace hR:=cf hR
  exact retR
end N115
def D_zef : DF
 | [x0]=>some (.str (zef (rdI x0)),false,[wI .i64 x0,-9223372036854775808<=(rdI x0),(rdI x0)<=9223372036854775807])
 | _=>none
theorem yhx:OkD Tryz.prog 115 D_zef:=by unfold D_zef;exact dk N115.den
def zae (a0:Int):(List UInt8):=
 (zac a0 ([[110,111,110,101],[108,101,102,116],[114,105,103,104,116],[110,111,114,116,104],[101,97,115,116],[115,111,117,116,104],[119,101,115,116],[100,97,110,103,101,114],[115,97,102,101],[115,112,101,99,105,97,108]]:List (List UInt8)))
namespace N116
theorem DD:DOk Tryz.prog (Go.Ab.DD [(171,dP D_zac)]):=ya ymi.e <| yc _
abbrev dn:=@D_zac.eq_1
theorem lx {p:Prop} (h:p:=by(exact lxx);first|done|fail):p:=h
theorem den (a0:Int)  : Den Tryz.prog 116 [.int .i64 a0] (.str (zae a0)):=by
 generalize hR:zae a0=r;unfold zae at hR;refine di Tryz.func116 Tryz.ntmps116 Tryz.results116 ?_;intro c hL hc hk;clear hL;simp only[pars,Nat.zero_add];refine rS ?_;exact retR
end N116
def D_zae : DF
 | [x0]=>some (.str (zae (rdI x0)),false,[wI .i64 x0])
 | _=>none
theorem ydr:OkD Tryz.prog 116 D_zae:=by unfold D_zae;exact dk N116.den
theorem y9l (l:List (List UInt8)) (h:∀ x∈l,x.length<=100) (n:Nat):(l.getD n default).length<=100:=by
 rw[List.getD_eq_getElem?_getD]
 cases hg:l[n]? with
 | none=>show(0:Nat)<=100;omega
 | some x=>exact h x (List.mem_of_getElem? hg)
theorem y25 (k:Int) (l:List (List UInt8)) (h:∀ x∈l,x.length<=100):(zac k l).length<=100:=by
 unfold zac;simp only[Bool.cond_eq_ite];split
 ·simp
 ·exact y9l l h _
def zte (a0:Int):Bool:=
 (ze a0 2000 2273)
namespace N179
theorem DD:DOk Tryz.prog (Go.Ab.DD [(53,dP D_ze)]):=ya yfc.e <| yc _
abbrev dn:=@D_ze.eq_1
abbrev ol:=@ze.eq_1
theorem den (a0:Int)  : Den Tryz.prog 179 [.int .i64 a0] (.bool (zte a0)):=by
 generalize hR:zte a0=r;unfold zte at hR;refine di Tryz.func179 Tryz.ntmps179 Tryz.results179 ?_;intro c hL hc hk;clear hL;simp only[pars,Nat.zero_add];refine rS ?_;exact retR
end N179
def D_zte : DF
 | [x0]=>some (.bool (zte (rdI x0)),false,[wI .i64 x0])
 | _=>none
theorem yxw:OkD Tryz.prog 179 D_zte:=by unfold D_zte;exact dk N179.den
def zge (a0:Int):Bool:=
 ((zte a0) && ((((a0.tmod 4) == 0) && ((a0.tmod 100) != 0)) || ((a0.tmod 400) == 0)))
namespace N210
theorem DD:DOk Tryz.prog (Go.Ab.DD [(179,dP D_zte)]):=ya yxw.e <| yc _
abbrev dn:=@D_zte.eq_1
theorem den (a0:Int)  : Den Tryz.prog 210 [.int .i64 a0] (.bool (zge a0)):=by
 generalize hR:zge a0=r;unfold zge at hR;refine di Tryz.func210 Tryz.ntmps210 Tryz.results210 ?_;intro c hL hc hk;clear hL;simp only[pars,Nat.zero_add];refine rS ?_;exact retR
end N210
def D_zge : DF
 | [x0]=>some (.bool (zge (rdI x0)),false,[wI .i64 x0])
 | _=>none
theorem y9y:OkD Tryz.prog 210 D_zge:=by unfold D_zge;exact dk N210.den
def ztb (a0:Int):Int:=
 (bif (zge a0)then 366 else 365)
namespace N159
theorem DD:DOk Tryz.prog (Go.Ab.DD [(210,dP D_zge)]):=ya y9y.e <| yc _
abbrev dn:=@D_zge.eq_1
theorem den (a0:Int)  : Den Tryz.prog 159 [.int .i64 a0] (.int .i64 (ztb a0)):=by
 generalize hR:ztb a0=r;unfold ztb at hR;refine di Tryz.func159 Tryz.ntmps159 Tryz.results159 ?_;intro c hL hc hk;clear hL;simp only[pars,Nat.zero_add];iterate 2 refine rS ?_
 refine yb ?_ ?_<;>intro hb
 ·replace hR:=ct hR
  exact retR
 ·replace hR:=cf hR
  exact retR
end N159
def D_ztb : DF
 | [x0]=>some (.int .i64 (ztb (rdI x0)),false,[wI .i64 x0])
 | _=>none
theorem yuw:OkD Tryz.prog 159 D_ztb:=by unfold D_ztb;exact dk N159.den
def zhb (a0:Int) (a1:Int):Int:=
 (bif ((a1 == 2) && (zge a0))then 29 else([31,28,31,30,31,30,31,31,30,31,30,31]:List Int).getD ((IntKind.wrap .i64 (a1-1)).toNat) 0)
namespace N160
theorem DD:DOk Tryz.prog (Go.Ab.DD [(210,dP D_zge)]):=ya y9y.e <| yc _
abbrev dn:=@D_zge.eq_1
theorem den (a0:Int) (a1:Int) (hp0:1<=a1) (hp1:a1<=12):Den Tryz.prog 160 [.int .i64 a0,.int .i64 a1] (.int .i64 (zhb a0 a1)):=by
 generalize hR:zhb a0 a1=r;unfold zhb at hR;refine di Tryz.func160 Tryz.ntmps160 Tryz.results160 ?_;intro c hL hc hk;clear hL;simp only[pars,Nat.zero_add];iterate 2 refine rS ?_
 refine yb ?_ ?_<;>intro hb
 ·replace hR:=ct hR
  exact retR
 ·replace hR:=cf hR
  exact retR
end N160
def D_zhb : DF
 | [x0,x1]=>some (.int .i64 (zhb (rdI x0) (rdI x1)),false,[wI .i64 x0,wI .i64 x1,1<=(rdI x1),(rdI x1)<=12])
 | _=>none
theorem yoq:OkD Tryz.prog 160 D_zhb:=by unfold D_zhb;exact dk N160.den
theorem yrk (y:Int):ztb y=365\/ztb y=366:=by
 unfold ztb;cases zge y<;>simp
def ywu (y m:Int):Int:=(bif zge y && decide (m<=2)then 1 else 0)+([365,334,306,275,245,214,184,153,122,92,61,31]:List Int).getD (m-1).toNat 0
theorem yeg (y : Int) : zhb y 1 = 31 /\ zhb y 2 = (bif zge y then 29 else 28) /\ zhb y 3 = 31 /\ zhb y 4 = 30 /\ zhb y 5 = 31 /\ zhb y 6 = 30
  /\ zhb y 7=31/\zhb y 8=31/\zhb y 9=30/\zhb y 10=31/\zhb y 11=30/\zhb y 12=31:=by
 simp[zhb,IntKind.wrap_i64]
theorem yxs (y:Int):ywu y 1=ztb y:=by
 unfold ztb ywu;cases zge y<;>rfl
theorem y6j (y m d:Int) (h1:1<=m) (h2:m<=12) (h3:d<ywu y m) (h4:zhb y m<=d):m<=11/\d-zhb y m<ywu y (m+1)/\28<=zhb y m/\zhb y m<=31:=by
 obtain⟨e1,e2,e3,e4,e5,e6,e7,e8,e9,e10,e11,e12⟩:=yeg y
 rcases yqf h1 h2 with rfl|rfl|rfl|rfl|rfl|rfl|rfl|rfl|rfl|rfl|rfl|rfl<;>
  simp only[*]at h4 ⊢ <;> simp[ywu]at h3 ⊢ <;> cases hl:zge y<;>simp_all<;>omega
theorem y5f (y m:Int) (h1:1<=m) (h2:m<=12):28<=zhb y m/\zhb y m<=31:=by
 obtain⟨e1,e2,e3,e4,e5,e6,e7,e8,e9,e10,e11,e12⟩:=yeg y;rcases yqf h1 h2 with rfl|rfl|rfl|rfl|rfl|rfl|rfl|rfl|rfl|rfl|rfl|rfl<;>simp only[*]<;>cases zge y<;>simp
def y0z (a0:Int) (s1:Int×Int):Except (Sum ((Int×Int×Int)) (Int×Int)) (Int×Int):=
 (bif decide ((ztb s1.2)<=s1.1)then .ok (IntKind.wrap .i64 (s1.1-(ztb s1.2)),IntKind.wrap .i64 (s1.2+1))else .error (.inr (s1.1,s1.2)))
def y5z (a0:Int) (s1:Int×Int) (s2:Int×Int):Except (Sum ((Int×Int×Int)) (Int×Int)) (Int×Int):=
 (bif decide ((zhb s1.2 s2.2)<=s2.1)then .ok (IntKind.wrap .i64 (s2.1-(zhb s1.2 s2.2)),IntKind.wrap .i64 (s2.2+1))else .error (.inr (s2.1,s2.2)))
def zz (a0:Int):(Int×Int×Int):=
 (match yab (y0z a0) (((a0).toNat)+1) (a0,2000)with|.error (.inl e)=>e|.error (.inr s1)=>(match yab (y5z a0 s1) (((s1.1).toNat)+1) (s1.1,1)with|.error (.inl e)=>e|.error (.inr s2)=>(s1.2,s2.2,IntKind.wrap .i64 (s2.1+1))|.ok _=>default)|.ok _=>default)
namespace N108
theorem DD:DOk Tryz.prog (Go.Ab.DD [(159,dP D_ztb),(160,dP D_zhb)]):=ya yuw.e <| ya yoq.e <| yc _
abbrev dn:=cj @D_ztb.eq_1 <| @D_zhb.eq_1
theorem den (a0:Int) (hp0:0<=a0) (hp1:a0<=99999):Den Tryz.prog 108 [.int .i64 a0] (.tup [.int .i64 ((zz a0).1),.int .i64 ((zz a0).2.1),.int .i64 ((zz a0).2.2)]):=by
 generalize hR:zz a0=r;unfold zz at hR;refine di Tryz.func108 Tryz.ntmps108 Tryz.results108 ?_;intro c hL hc hk;clear hL;simp only[pars,Nat.zero_add];iterate 2 refine rS ?_
 refine AWP.seq ?_;refine AWP.block ?_;generalize hz1:yab (y0z a0) (((a0).toNat)+1) (a0,2000)=z1 at hR;refine AWP.whileW (y0z a0) (fun s1=>⟨[(0,.int .i64 s1.1),(5,.int .i64 s1.2),(6,.int .i64 1)],[]⟩) (fun s1=>0<=s1.1/\2000<=s1.2/\s1.2-2000+s1.1<=a0) (fun s1=>(s1.1).toNat) (((a0).toNat)+1) (a0,2000) [] hz1 m0 wt sm ?_;clear hz1;intro s1 k1 hW1 hm1 hz1;simp only[y0z]at hz1;refine rS ?_;refine yb ?_ ?_<;>intro hb
 ·simp only[hb,cond_true]at hz1
  iterate 2 refine rS ?_
  exact⟨_,[],by(have h9:=yrk s1.2;simp only[ob,ln,ol]at *;omega),by(have h9:=yrk s1.2;simp only[ob,ln,ol]at *;omega),hz1,sm⟩
 ·simp only[hb,cond_false]at hz1
  refine AWP.exit ?_;refine yf ?_;subst hz1;dsimp only at hR;refine AWP.seq ?_;refine AWP.block ?_;generalize hz2:yab (y5z a0 (s1.1,s1.2)) (((s1.1).toNat)+1) (s1.1,1)=z2 at hR;refine AWP.whileW (y5z a0 (s1.1,s1.2)) (fun s2=>⟨[(0,.int .i64 s2.1),(5,.int .i64 s1.2),(6,.int .i64 s2.2)],[]⟩) (fun s2=>0<=s2.1/\s2.1<=99999/\1<=s2.2/\s2.2<=12/\s2.1<ywu s1.2 s2.2) (fun s2=>(s2.1).toNat) (((s1.1).toNat)+1) (s1.1,1) [] hz2 m0 (by(have h9:=yrk s1.2;have h8:=yxs s1.2;simp only[ob,ln,ol]at *;omega)) sm ?_;clear hz2;intro s2 k2 hW2 hm2 hz2;simp only[y5z]at hz2;refine rS ?_;refine yb ?_ ?_<;>intro hb
  ·simp only[hb,cond_true]at hz2
   iterate 2 refine rS ?_
   exact⟨_,[],by(have hbq:=of_decide_eq_true hb;have h9:=y6j s1.2 s2.2 s2.1 (by omega) (by omega) (by omega) hbq;have e1:=yrc (n:=s2.1-zhb s1.2 s2.2) (by omega) (by omega);have e2:=yrc (n:=s2.2+1) (by omega) (by omega);simp only[e1,e2];omega),by(have hbq:=of_decide_eq_true hb;have h9:=y6j s1.2 s2.2 s2.1 (by omega) (by omega) (by omega) hbq;have e1:=yrc (n:=s2.1-zhb s1.2 s2.2) (by omega) (by omega);have e2:=yrc (n:=s2.2+1) (by omega) (by omega);simp only[e1,e2];omega),hz2,sm⟩
  ·simp only[hb,cond_false]at hz2
   refine AWP.exit ?_;refine yf ?_;subst hz2;dsimp only at hR;exact retR
end N108
def D_zz : DF
 | [x0]=>some (.tup [.int .i64 ((zz (rdI x0)).1),.int .i64 ((zz (rdI x0)).2.1),.int .i64 ((zz (rdI x0)).2.2)],false,[wI .i64 x0,0<=(rdI x0),(rdI x0)<=99999])
 | _=>none
theorem yhcb:OkD Tryz.prog 108 D_zz:=by unfold D_zz;exact dk N108.den
theorem y8v {y:Int} (h1:2000<=y) (h2:y<=2273):zge y=yib y:=by
 unfold zge yib zte ze;simp[h1,h2]
theorem ynl {y m:Int} (hy1:2000<=y) (hy2:y<=2273) (h1:1<=m) (h2:m<=12):zhb y m=mdD (yib y) m.toNat:=by
 obtain⟨e1,e2,e3,e4,e5,e6,e7,e8,e9,e10,e11,e12⟩:=yeg y;rw[y8v hy1 hy2]at e2;rcases yqf h1 h2 with rfl|rfl|rfl|rfl|rfl|rfl|rfl|rfl|rfl|rfl|rfl|rfl<;>simp only[*]<;>cases yib y<;>rfl
theorem yfcb (a:Int) (h1:0<=a) (h2:a<=99999):∃ y m d,zz a=(y,m,d)/\y<=2273/\ylm a y m d:=by
 have L1 := yni (body := y0z a) (I := fun s => 0 <= s.1 /\ 2000 <= s.2 /\ ybD s.2 + s.1 = a)
  (Q:=fun r=>∃ s:Int×Int,r=.inr s/\0<=s.1/\2000<=s.2/\ybD s.2+s.1=a/\s.1<ztb s.2) (M:=fun s=>s.1.toNat) (by
   rintro⟨d,y⟩ ⟨i1,i2,i3⟩
   simp only[y0z]at i1 i2 i3 ⊢;have hy:=yrk y;have hle:=ykn (y:=y) (by omega);have hnn:=ybj i2;by_cases hc:ztb y<=d
   ·have hyd:ztb y=365+(bif yib y then 1 else 0):=by
     unfold ztb;rw[y8v i2 hle];cases yib y<;>rfl
    have hn:=yrn y i2;simp only[hc,decide_true,cond_true];rw[yrc (by omega) (by omega),yrc (by omega) (by omega)];refine⟨⟨by omega,by omega,by omega⟩,by omega⟩
   ·simp only[hc,decide_false,cond_false]
    exact⟨_,rfl,i1,i2,i3,by show d<ztb y;omega⟩) (a.toNat+1) (a,2000) ⟨h1,by show(2000:Int)<=2000;omega,by simp[ybD]⟩ (by show a.toNat<a.toNat+1;omega)
 obtain⟨r,e1,s,rfl,q1,q2,q3,q4⟩:=L1;have hle:=ykn (y:=s.2) (by omega);have hnn:=ybj q2;have hyd:=yrk s.2
 have L2 := yni (body := y5z a s) (I := fun t => 0 <= t.1 /\ 1 <= t.2 /\ t.2 <= 12 /\ t.1 < ywu s.2 t.2 /\ (mbD (yib s.2) t.2.toNat : Int) + t.1 = s.1)
  (Q:=fun r=>∃ t:Int×Int,r=.inr t/\0<=t.1/\1<=t.2/\t.2<=12/\t.1<zhb s.2 t.2/\(mbD (yib s.2) t.2.toNat:Int)+t.1=s.1) (M:=fun t=>t.1.toNat) (by
   rintro⟨d,m⟩ ⟨i1,i2,i3,i4,i5⟩
   simp only[y5z]at i1 i2 i3 i4 i5 ⊢;by_cases hc:zhb s.2 m<=d
   ·have hs:=y6j s.2 m d i2 i3 i4 hc
    have hm:=ynl q2 hle i2 i3;have hn:=yvv (l:=yib s.2) i2 hs.1;simp only[hc,decide_true,cond_true];rw[yrc (by omega) (by omega),yrc (by omega) (by omega)];refine⟨⟨by omega,by omega,by omega,hs.2.1,by omega⟩,by omega⟩
   ·simp only[hc,decide_false,cond_false]
    exact⟨_,rfl,i1,i2,i3,by show d<zhb s.2 m;omega,i5⟩) (s.1.toNat+1) (s.1,1) ⟨q1,by show(1:Int)<=1;omega,by show(1:Int)<=12;omega,by rw[yxs];exact q4,by show(mbD (yib s.2) 1:Int)+s.1=s.1;rw[yll];simp⟩ (by show s.1.toNat<s.1.toNat+1;omega)
 obtain⟨r2,e2,t,rfl,p1,p2,p3,p4,p5⟩:=L2;have hm:=ynl q2 hle p2 p3
 have hw:IntKind.wrap .i64 (t.1+1)=t.1+1:=by
  have:=(yg4 (l:=yib s.2) p2 p3)
  refine yrc (by omega) ?_;cases hl:yib s.2<;>simp only[hl,cond_true,cond_false]at * <;> omega
 refine⟨s.2,t.2,t.1+1,?_,hle,q2,p2,p3,by omega,by omega,by omega⟩;unfold zz;rw[e1];simp only;rw[e2];simp only[hw]
theorem ylab (a:Int) (h1:0<=a) (h2:a<=99999):2000<=(zz a).1/\(zz a).1<=2273/\1<=(zz a).2.1/\(zz a).2.1<=12/\1<=(zz a).2.2/\(zz a).2.2<=31:=by
 obtain⟨y,m,d,e,hy,h⟩:=yfcb a h1 h2;have hm:=y8n (l:=yib y) h.2.1 h.2.2.1;rw[e];exact⟨h.1,hy,h.2.1,h.2.2.1,h.2.2.2.1,by show d<=31;have:=h.2.2.2.2.1;omega⟩
def zhe (a0:Int) (a1:Int):(List UInt8):=
 (zvf [48] (if 0<IntKind.wrap .i64 (a1-((zh a0).length:Int))then IntKind.wrap .i64 (a1-((zh a0).length:Int))else 0))++(zh a0)
namespace N109
theorem DD:DOk Tryz.prog (Go.Ab.DD [(161,dP D_zvf),(59,dP D_zh)]):=ya yb5.e <| ya ygf.e <| yc _
abbrev dn:=cj @D_zvf.eq_1 <| @D_zh.eq_1
abbrev ol:=@y9v
theorem gr {p:Prop} (h:p:=by(grind [y9v,y0c]);first|done|fail):p:=h
theorem den (a0:Int) (a1:Int) (hp0 : -1000000000000<=a0) (hp1:a0<=1000000000000) (hp2:0<=a1) (hp3:a1<=4):Den Tryz.prog 109 [.int .i64 a0,.int .i64 a1] (.str (zhe a0 a1)):=by
 generalize hR:zhe a0 a1=r;unfold zhe at hR;refine di Tryz.func109 Tryz.ntmps109 Tryz.results109 ?_;intro c hL hc hk;clear hL;simp only[pars,Nat.zero_add];have hl0:=y0c a0;iterate 2 refine rS ?_
 exact retR
end N109
def D_zhe : DF
 | [x0,x1]=>some (.str (zhe (rdI x0) (rdI x1)),false,[wI .i64 x0,wI .i64 x1,-1000000000000<=(rdI x0),(rdI x0)<=1000000000000,0<=(rdI x1),(rdI x1)<=4])
 | _=>none
theorem y97:OkD Tryz.prog 109 D_zhe:=by unfold D_zhe;exact dk N109.den
theorem y2p (a:Int) (h1:0<=a) (h2:a<=1000):(zhe a 2).length<=2000:=by
 have hl:=y0c a;unfold zhe;rw[List.length_append,y9v,IntKind.wrap_i64];simp only[List.length_cons,List.length_nil,Nat.zero_add,Nat.one_mul];split<;>omega
def zgd (a0:Int):Bool:=
 (ze a0 0 99999)
namespace N57
theorem DD:DOk Tryz.prog (Go.Ab.DD [(53,dP D_ze)]):=ya yfc.e <| yc _
abbrev dn:=@D_ze.eq_1
abbrev ol:=@ze.eq_1
theorem den (a0:Int)  : Den Tryz.prog 57 [.int .i64 a0] (.bool (zgd a0)):=by
 generalize hR:zgd a0=r;unfold zgd at hR;refine di Tryz.func57 Tryz.ntmps57 Tryz.results57 ?_;intro c hL hc hk;clear hL;simp only[pars,Nat.zero_add];refine rS ?_;exact retR
end N57
def D_zgd : DF
 | [x0]=>some (.bool (zgd (rdI x0)),false,[wI .i64 x0])
 | _=>none
theorem ysq:OkD Tryz.prog 57 D_zgd:=by unfold D_zgd;exact dk N57.den
def zdb (a0:Int):(List UInt8):=
 (bif (!(zgd a0))then[]else((((zh ((zz a0).1))++[45])++(zhe ((zz a0).2.1) 2))++[45])++(zhe ((zz a0).2.2) 2))
namespace N60
theorem DD:DOk Tryz.prog (Go.Ab.DD [(108,dP D_zz),(109,dP D_zhe),(57,dP D_zgd),(59,dP D_zh)]):=ya yhcb.e <| ya y97.e <| ya ysq.e <| ya ygf.e <| yc _
abbrev dn:=cj @D_zz.eq_1 <| cj @D_zhe.eq_1 <| cj @D_zgd.eq_1 <| @D_zh.eq_1
theorem gr {p:Prop} (h:p:=by(grind [y0c]);first|done|fail):p:=h
theorem o0 {p:Prop} (h:p:=by(first|(have hb9:0<=a0/\a0<=99999:=(by have hb8:=hb;simp[zgd,ze]at hb8;omega);have hr:=ylab a0 hb9.1 hb9.2;have l1:=y0c (zz a0).1;have l2:=y2p (zz a0).2.1 (by omega) (by omega);have l3:=y2p (zz a0).2.2 (by omega) (by omega);(try simp only[List.length_append,List.length_cons,List.length_nil]);omega));first|done|fail):p:=h
theorem den (a0:Int)  : Den Tryz.prog 60 [.int .i64 a0] (.str (zdb a0)):=by
 generalize hR:zdb a0=r;unfold zdb at hR;refine di Tryz.func60 Tryz.ntmps60 Tryz.results60 ?_;intro c hL hc hk;clear hL;simp only[pars,Nat.zero_add];iterate 2 refine rS ?_
 refine yb ?_ ?_<;>intro hb
 ·replace hR:=ct hR
  exact retR
 ·replace hR:=cf hR
  refine rS ?_;exact retR
end N60
def D_zdb : DF
 | [x0]=>some (.str (zdb (rdI x0)),false,[wI .i64 x0])
 | _=>none
theorem y6y:OkD Tryz.prog 60 D_zdb:=by unfold D_zdb;exact dk N60.den
def ymo (a0:(List UInt8)) (i1:Nat) (s1:Int):Except ((Int×Bool)) (Int):=
 (bif (decide (((a0.getD i1 0).toNat:Int)<48) || decide (57<((a0.getD i1 0).toNat:Int)))then .error (0,false)else .ok (IntKind.wrap .i64 ((IntKind.wrap .i64 (10 * s1))+(IntKind.wrap .i64 (IntKind.wrap .u8 (((a0.getD i1 0).toNat:Int)-48))))))
def zab (a0:(List UInt8)):(Int×Bool):=
 (match ye (ymo a0) (a0.length-0) 0 0 with|.error e=>e|.ok s1=>(s1,(ze (a0.length:Int) 1 18)))
namespace N122
theorem DD:DOk Tryz.prog (Go.Ab.DD [(53,dP D_ze)]):=ya yfc.e <| yc _
abbrev dn:=@D_ze.eq_1
abbrev ol:=@ze.eq_1
theorem den (a0:(List UInt8))  : Den Tryz.prog 122 [.str a0] (.tup [.int .i64 ((zab a0).1),.bool ((zab a0).2)]):=by
 generalize hR:zab a0=r;unfold zab at hR;refine di Tryz.func122 Tryz.ntmps122 Tryz.results122 ?_;intro c hL hc hk;obtain⟨hL0,_⟩:=hL;have hw0:=lwS hL0;clear hL0;simp only[pars,Nat.zero_add];iterate 3 refine rS ?_
 refine AWP.block ?_;generalize hz1:ye (ymo a0) (a0.length-0) 0 0=z1 at hR;refine AWP.range (ymo a0) (fun i1 s1=>⟨[(0,.str a0),(4,.int .i64 s1),(5,.int .i64 (i1:Int))],[]⟩) (fun i1 s1=>True) (a0.length) 0 0 [] hz1 ot wt sm ?_;clear hz1;intro i1 s1 hi1 hW1 hz1;refine rS ?_;refine yb ?_ ?_<;>intro hb
 ·have hlt1:i1<a0.length:=ot
  rw[yi hlt1]at hz1;simp only[ymo]at hz1;refine rS ?_;refine yb ?_ ?_<;>intro hb
  ·simp only[hb,cond_true]at hz1
   refine rS ?_;refine AWP.ret ?_;subst hz1;dsimp only at hR;subst hR;exact es
  ·simp only[hb,cond_false]at hz1
   iterate 2 refine rS ?_
   exact⟨_,[],hlt1,wt,hz1,sm⟩
 ·obtain rfl:i1=a0.length:=ot
  exact retX
end N122
def D_zab : DF
 | [x0]=>some (.tup [.int .i64 ((zab (rdS x0)).1),.bool ((zab (rdS x0)).2)],false,[wS x0])
 | _=>none
theorem yr5:OkD Tryz.prog 122 D_zab:=by unfold D_zab;exact dk N122.den
def zig (a0:Int):Bool:=
 (ze a0 1 12)
namespace N180
theorem DD:DOk Tryz.prog (Go.Ab.DD [(53,dP D_ze)]):=ya yfc.e <| yc _
abbrev dn:=@D_ze.eq_1
abbrev ol:=@ze.eq_1
theorem den (a0:Int)  : Den Tryz.prog 180 [.int .i64 a0] (.bool (zig a0)):=by
 generalize hR:zig a0=r;unfold zig at hR;refine di Tryz.func180 Tryz.ntmps180 Tryz.results180 ?_;intro c hL hc hk;clear hL;simp only[pars,Nat.zero_add];refine rS ?_;exact retR
end N180
def D_zig : DF
 | [x0]=>some (.bool (zig (rdI x0)),false,[wI .i64 x0])
 | _=>none
theorem yz9:OkD Tryz.prog 180 D_zig:=by unfold D_zig;exact dk N180.den
def yen (a0:Int) (i1:Nat) (s1:Int):Except (Int) (Int):=
 .ok (IntKind.wrap .i64 (s1+(ztb (i1:Int))))
def zcd (a0:Int):Int:=
 (match ye (yen a0) ((a0).toNat-2000) 2000 0 with|.error e=>e|.ok s1=>s1)
namespace N237
theorem DD:DOk Tryz.prog (Go.Ab.DD [(159,dP D_ztb)]):=ya yuw.e <| yc _
abbrev dn:=@D_ztb.eq_1
set_option maxHeartbeats 400000 in
set_option maxRecDepth 20000 in
theorem den (a0:Int) (hp0:2000<=a0) (hp1:a0<=2273):Den Tryz.prog 237 [.int .i64 a0] (.int .i64 (zcd a0)):=by
 generalize hR:zcd a0=r;unfold zcd at hR;refine di Tryz.func237 Tryz.ntmps237 Tryz.results237 ?_;intro c hL hc hk;clear hL;simp only[pars,Nat.zero_add];iterate 3 refine rS ?_
 refine AWP.block ?_;generalize hz1:ye (yen a0) ((a0).toNat-2000) 2000 0=z1 at hR;refine AWP.range (yen a0) (fun i1 s1=>⟨[(0,.int .i64 a0),(3,.int .i64 s1),(4,.int .i64 (i1:Int))],[]⟩) (fun i1 s1=>2000<=i1/\0<=s1/\s1<=366 * ((i1:Int)-2000)/\2000<=i1) ((a0).toNat) 2000 0 [] hz1 ot wt sm ?_;clear hz1;intro i1 s1 hi1 hW1 hz1;refine rS ?_;refine yb ?_ ?_<;>intro hb
 ·have hlt1:i1<(a0).toNat:=ot
  rw[yi hlt1]at hz1;simp only[yen]at hz1;iterate 2 refine rS ?_
  exact⟨_,[],hlt1,by(have h9:=yrk (i1:Int);simp only[ob,ln,ol]at *;omega),hz1,sm⟩
 ·obtain rfl:i1=(a0).toNat:=ot
  exact retX
end N237
def D_zcd : DF
 | [x0]=>some (.int .i64 (zcd (rdI x0)),false,[wI .i64 x0,2000<=(rdI x0),(rdI x0)<=2273])
 | _=>none
theorem yo9:OkD Tryz.prog 237 D_zcd:=by unfold D_zcd;exact dk N237.den
theorem y9g {ρ σ:Type} {b:Nat->σ->Except ρ σ} {I:Nat->σ->Prop} (hi:∀ i s,I i s->∃ t,b i s=.ok t/\I (i+1) t) :
  ∀ (k i:Nat) (s:σ),I i s->∃ t,ye b k i s=.ok t/\I (i+k) t
 | 0,i,s,h=>⟨s,rfl,h⟩
 | k+1,i,s,h=>by
  obtain⟨t,h1,h2⟩:=hi i s h;obtain⟨u,h3,h4⟩:=y9g hi k (i+1) t h2;refine⟨u,?_,by rw[show i+(k+1)=i+1+k by omega];exact h4⟩;simp only[ye,h1,h3]
theorem ypcb (y:Int) (h1:2000<=y) (h2:y<=2273):0<=zcd y/\zcd y<=366 * 273:=by
 have hL:∀ k:Nat,k<=273->∃ t,ye (yen y) k 2000 0=.ok t/\0<=t/\t<=366 * (k:Int):=by
  intro k hk
  obtain⟨t,e,_,h4⟩:=y9g (b:=yen y) (I:=fun i t=>2000<=i/\(i<=2273->0<=t/\t<=366 * ((i:Int)-2000))) (fun i s hI=>by
   obtain⟨hI1,hI2⟩:=hI;refine⟨_,rfl,by omega,fun hle => ?_⟩;have h3:=hI2 (by omega);have h9:=yrk (i:Int);rw[IntKind.wrap_i64]
   omega) k 2000 0 ⟨by omega,fun _=>by omega⟩
  have:=h4 (by omega);exact⟨t,e,this.1,by omega⟩
 obtain⟨t,e,h3,h4⟩:=hL (y.toNat-2000) (by omega);unfold zcd;rw[e];simp only;exact⟨h3,by omega⟩
def yrr (a0:Int) (a1:Int) (a2:Int) (i1:Nat) (s1:Int):Except (Int) (Int):=
 .ok (IntKind.wrap .i64 (s1+(zhb a0 (i1:Int))))
def zie (a0:Int) (a1:Int) (a2:Int):Int:=
 (match ye (yrr a0 a1 a2) ((a1).toNat-1) 1 (IntKind.wrap .i64 ((IntKind.wrap .i64 ((zcd a0)+a2))-1))with|.error e=>e|.ok s1=>s1)
namespace N181
theorem DD:DOk Tryz.prog (Go.Ab.DD [(160,dP D_zhb),(237,dP D_zcd)]):=ya yoq.e <| ya yo9.e <| yc _
abbrev dn:=cj @D_zhb.eq_1 <| @D_zcd.eq_1
set_option maxHeartbeats 400000 in
set_option maxRecDepth 20000 in
theorem den (a0:Int) (a1:Int) (a2:Int) (hp0:2000<=a0) (hp1:a0<=2273) (hp2:1<=a1) (hp3:a1<=12) (hp4:1<=a2) (hp5:a2<=31):Den Tryz.prog 181 [.int .i64 a0,.int .i64 a1,.int .i64 a2] (.int .i64 (zie a0 a1 a2)):=by
 generalize hR:zie a0 a1 a2=r;unfold zie at hR;refine di Tryz.func181 Tryz.ntmps181 Tryz.results181 ?_;intro c hL hc hk;clear hL;simp only[pars,Nat.zero_add];have hf9:=ypcb a0 hp0 hp1;iterate 3 refine rS ?_
 refine AWP.block ?_;generalize hz1:ye (yrr a0 a1 a2) ((a1).toNat-1) 1 (IntKind.wrap .i64 ((IntKind.wrap .i64 ((zcd a0)+a2))-1))=z1 at hR;refine AWP.range (yrr a0 a1 a2) (fun i1 s1=>⟨[(0,.int .i64 a0),(1,.int .i64 a1),(7,.int .i64 s1),(8,.int .i64 (i1:Int))],[]⟩) (fun i1 s1=>1<=i1/\0<=s1/\s1<=30+366 * 273+31 * ((i1:Int)-1)/\1<=i1) ((a1).toNat) 1 (IntKind.wrap .i64 ((IntKind.wrap .i64 ((zcd a0)+a2))-1)) [] hz1 ot wt sm ?_;clear hz1;intro i1 s1 hi1 hW1 hz1;refine rS ?_;refine yb ?_ ?_<;>intro hb
 ·have hlt1:i1<(a1).toNat:=ot
  rw[yi hlt1]at hz1;simp only[yrr]at hz1;iterate 2 refine rS ?_
  exact⟨_,[],hlt1,by(have h9:=y5f a0 (i1:Int) (by omega) (by simp only[ob]at *;omega);simp only[ob,ln,ol]at *;omega),hz1,sm⟩
 ·obtain rfl:i1=(a1).toNat:=ot
  exact retX
end N181
def D_zie : DF
 | [x0,x1,x2]=>some (.int .i64 (zie (rdI x0) (rdI x1) (rdI x2)),false,[wI .i64 x0,wI .i64 x1,wI .i64 x2,2000<=(rdI x0),(rdI x0)<=2273,1<=(rdI x1),(rdI x1)<=12,1<=(rdI x2),(rdI x2)<=31])
 | _=>none
theorem yp6:OkD Tryz.prog 181 D_zie:=by unfold D_zie;exact dk N181.den
end Go.Ab
