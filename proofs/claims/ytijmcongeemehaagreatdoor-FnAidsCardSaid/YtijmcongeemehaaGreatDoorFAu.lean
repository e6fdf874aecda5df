/- A part of a proof: walks of functions and lemmas of our own. No conditions. -/
import Derived.Test.YtijmcongeemehaaGreatDoorFAl
import Derived.Test.YtijmcongeemehaaGreatDoorFAt
import Derived.Test.YtijmcongeemehaaGreatDoorFAo
set_option linter.unusedSectionVars false
set_option linter.unusedVariables false
set_option linter.unusedSimpArgs false
set_option maxHeartbeats 1000000
namespace Go.Ab
open Go Go.Proofs
def yep (a0:(List Int)) (i1:Nat) (s1:Int):Except (Int) (Int):=
 .ok (IntKind.wrap .i64 (s1+(a0.getD i1 default)))
def zle (a0:(List Int)):Int:=
 (bif ((a0.length:Int) == 0)then 1 else(match yf (yep a0) (a0.length-0) 0 0 with|.error e=>e|.ok s1=>s1))
namespace N285
theorem DD:DOk Tryz.prog (Go.Ab.DD []):=ye _
theorem den (a0:(List Int))  : Den Tryz.prog 285 [encL 1 yw a0] (.int .i64 (zle a0)):=by
 generalize hR:zle a0=r;unfold zle at hR;refine di Tryz.func285 Tryz.ntmps285 Tryz.results285 ?_;intro c hL hc hk;obtain⟨hL0,_⟩:=hL;have hw0:a0.length<9223372036854775808:=Nat.lt_succ_of_le (yc hL0).1;clear hL0;simp only[pars,Nat.zero_add];iterate 2 refine rS ?_
 refine AWP.cond rfl (fun hb => ?_) (fun hb => ?_)
 ·replace hR:=ct hR
  refine rS ?_;refine AWP.ret ?_;subst hR;exact es
 ·replace hR:=cf hR
  iterate 2 refine rS ?_
  refine AWP.block ?_;generalize hz1:yf (yep a0) (a0.length-0) 0 0=z1 at hR;refine AWP.range (yep a0) (fun i1 s1=>⟨[(0,encL 1 yw a0),(3,.int .i64 s1),(4,.int .i64 (i1:Int))],[]⟩) (fun i1 s1=>True) (a0.length) 0 0 [] hz1 ot wt sm ?_;clear hz1;intro i1 s1 hi1 hW1 hz1;refine rS ?_;refine AWP.cond rfl (fun hb => ?_) (fun hb => ?_)
  ·have hlt1:i1<a0.length:=ot
   rw[yp hlt1]at hz1;simp only[yep]at hz1;iterate 2 refine rS ?_
   exact⟨_,[],hlt1,wt,hz1,sm⟩
  ·obtain rfl:i1=a0.length:=ot
   rw[yq (Nat.le_refl _)]at hz1;subst hz1;dsimp only at hR;refine AWP.exit ?_;refine yb ?_;refine rS ?_;refine AWP.ret ?_;subst hR;exact es
end N285
def D_zle : DF
 | [x0]=>some (.int .i64 (zle (rdL y4b x0)),false,[wL 1 yw y4b x0])
 | _=>none
theorem y40:OkD Tryz.prog 285 D_zle:=by unfold D_zle;exact dk N285.den
def yro (a0:(List Int)) (i1:Nat) (s1:Unit):Except (Bool) (Unit):=
 (bif (!(zn (a0.getD i1 default) 1 9))then .error false else .ok ())
def zgc (a0:(List Int)):Bool:=
 (match yf (yro a0) (a0.length-0) 0 ()with|.error e=>e|.ok s1=>((decide ((a0.length:Int)<=4) && (!(((a0.length:Int) == 1) && ((a0.getD 0 default) == 1)))) && decide ((zle a0)<=12)))
namespace N233
theorem DD:DOk Tryz.prog (Go.Ab.DD [(285,dP D_zle),(95,dP D_zn)]):=ya y40.e <| ya yig.e <| ye _
theorem dn:type_of% (And.intro @D_zle.eq_1 <| @D_zn.eq_1):=by and_intros<;>intros<;>rfl
theorem ol:type_of% (@zn.eq_1):=@zn.eq_1
theorem den (a0:(List Int))  : Den Tryz.prog 233 [encL 1 yw a0] (.bool (zgc a0)):=by
 generalize hR:zgc a0=r;unfold zgc at hR;refine di Tryz.func233 Tryz.ntmps233 Tryz.results233 ?_;intro c hL hc hk;obtain⟨hL0,_⟩:=hL;have hw0:a0.length<9223372036854775808:=Nat.lt_succ_of_le (yc hL0).1;clear hL0;simp only[pars,Nat.zero_add];iterate 2 refine rS ?_
 refine AWP.block ?_;generalize hz1:yf (yro a0) (a0.length-0) 0 ()=z1 at hR;refine AWP.range (yro a0) (fun i1 s1=>⟨[(0,encL 1 yw a0),(3,.int .i64 (i1:Int))],[]⟩) (fun i1 s1=>True) (a0.length) 0 () [] hz1 ot wt sm ?_;clear hz1;intro i1 s1 hi1 hW1 hz1;refine rS ?_;refine AWP.cond rfl (fun hb => ?_) (fun hb => ?_)
 ·have hlt1:i1<a0.length:=ot
  rw[yp hlt1]at hz1;simp only[yro]at hz1;refine rS ?_;refine AWP.cond rfl (fun hb => ?_) (fun hb => ?_)
  ·simp only[hb,cond_true]at hz1
   refine rS ?_;refine AWP.ret ?_;subst hz1;dsimp only at hR;subst hR;exact es
  ·simp only[hb,cond_false]at hz1
   refine rS ?_;exact⟨_,[],hlt1,wt,hz1,sm⟩
 ·obtain rfl:i1=a0.length:=ot
  rw[yq (Nat.le_refl _)]at hz1;subst hz1;dsimp only at hR;refine AWP.exit ?_;refine yb ?_;refine rS ?_;refine AWP.ret ?_;subst hR;exact es
end N233
def D_zgc : DF
 | [x0]=>some (.bool (zgc (rdL y4b x0)),false,[wL 1 yw y4b x0])
 | _=>none
theorem ygu:OkD Tryz.prog 233 D_zgc:=by unfold D_zgc;exact dk N233.den
def zse (a0:Int):Int:=
 (bif (a0 == 87)then 1 else(bif (a0 == 82)then 2 else(bif (a0 == 71)then 3 else(bif (a0 == 89)then 4 else 0))))
namespace N308
theorem DD:DOk Tryz.prog (Go.Ab.DD []):=ye _
theorem den (a0:Int)  : Den Tryz.prog 308 [.int .u8 a0] (.int .i64 (zse a0)):=by
 generalize hR:zse a0=r;unfold zse at hR;refine di Tryz.func308 Tryz.ntmps308 Tryz.results308 ?_;intro c hL hc hk;clear hL;simp only[pars,Nat.zero_add];iterate 3 refine rS ?_
 refine AWP.cond rfl (fun hb => ?_) (fun hb => ?_)
 ·replace hR:=ct hR
  refine rS ?_;refine AWP.ret ?_;subst hR;exact es
 ·replace hR:=cf hR
  refine rS ?_;refine AWP.cond rfl (fun hb => ?_) (fun hb => ?_)
  ·replace hR:=ct hR
   refine rS ?_;refine AWP.ret ?_;subst hR;exact es
  ·replace hR:=cf hR
   refine rS ?_;refine AWP.cond rfl (fun hb => ?_) (fun hb => ?_)
   ·replace hR:=ct hR
    refine rS ?_;refine AWP.ret ?_;subst hR;exact es
   ·replace hR:=cf hR
    refine rS ?_;refine AWP.cond rfl (fun hb => ?_) (fun hb => ?_)
    ·replace hR:=ct hR
     refine rS ?_;refine AWP.ret ?_;subst hR;exact es
    ·replace hR:=cf hR
     refine rS ?_;refine AWP.ret ?_;subst hR;exact es
end N308
def D_zse : DF
 | [x0]=>some (.int .i64 (zse (rdI x0)),false,[wI .u8 x0])
 | _=>none
theorem y02:OkD Tryz.prog 308 D_zse:=by unfold D_zse;exact dk N308.den
def yte (a0:(List UInt8)) (i1:Nat) (s1:Unit):Except (Bool) (Unit):=
 (bif (((zse ((a0.getD i1 0).toNat:Int)) == 0) || (decide (0<(i1:Int)) && decide ((zse ((a0.getD i1 0).toNat:Int))<=(zse ((a0.getD ((IntKind.wrap .i64 ((i1:Int)-1)).toNat) 0).toNat:Int)))))then .error false else .ok ())
def zob (a0:(List UInt8)):Bool:=
 (match yf (yte a0) (a0.length-0) 0 ()with|.error e=>e|.ok s1=>(decide (1<=(a0.length:Int)) && decide ((a0.length:Int)<=3)))
namespace N258
theorem DD:DOk Tryz.prog (Go.Ab.DD [(308,dP D_zse)]):=ya y02.e <| ye _
theorem dn:type_of% (@D_zse.eq_1):=by and_intros<;>intros<;>rfl
theorem den (a0:(List UInt8))  : Den Tryz.prog 258 [.str a0] (.bool (zob a0)):=by
 generalize hR:zob a0=r;unfold zob at hR;refine di Tryz.func258 Tryz.ntmps258 Tryz.results258 ?_;intro c hL hc hk;obtain⟨hL0,_⟩:=hL;have hw0:a0.length<9223372036854775808:=Nat.lt_succ_of_le hL0;clear hL0;simp only[pars,Nat.zero_add];iterate 2 refine rS ?_
 refine AWP.block ?_;generalize hz1:yf (yte a0) (a0.length-0) 0 ()=z1 at hR;refine AWP.range (yte a0) (fun i1 s1=>⟨[(0,.str a0),(3,.int .i64 (i1:Int))],[]⟩) (fun i1 s1=>True) (a0.length) 0 () [] hz1 ot wt sm ?_;clear hz1;intro i1 s1 hi1 hW1 hz1;refine rS ?_;refine AWP.cond rfl (fun hb => ?_) (fun hb => ?_)
 ·have hlt1:i1<a0.length:=ot
  rw[yp hlt1]at hz1;simp only[yte]at hz1;refine rD 21 ?_;refine AWP.cond rfl (fun hb => ?_) (fun hb => ?_)
  ·simp only[hb,cond_true]at hz1
   refine rS ?_;refine AWP.ret ?_;subst hz1;dsimp only at hR;subst hR;exact es
  ·simp only[hb,cond_false]at hz1
   refine rS ?_;exact⟨_,[],hlt1,wt,hz1,sm⟩
 ·obtain rfl:i1=a0.length:=ot
  rw[yq (Nat.le_refl _)]at hz1;subst hz1;dsimp only at hR;refine AWP.exit ?_;refine yb ?_;refine rS ?_;refine AWP.ret ?_;subst hR;exact es
end N258
def D_zob : DF
 | [x0]=>some (.bool (zob (rdS x0)),false,[wS x0])
 | _=>none
theorem y12:OkD Tryz.prog 258 D_zob:=by unfold D_zob;exact dk N258.den
def zof (a0:Int):Bool:=
 (zn a0 1 8)
namespace N257
theorem DD:DOk Tryz.prog (Go.Ab.DD [(95,dP D_zn)]):=ya yig.e <| ye _
theorem dn:type_of% (@D_zn.eq_1):=by and_intros<;>intros<;>rfl
theorem ol:type_of% (@zn.eq_1):=@zn.eq_1
theorem den (a0:Int)  : Den Tryz.prog 257 [.int .i64 a0] (.bool (zof a0)):=by
 generalize hR:zof a0=r;unfold zof at hR;refine di Tryz.func257 Tryz.ntmps257 Tryz.results257 ?_;intro c hL hc hk;clear hL;simp only[pars,Nat.zero_add];iterate 2 refine rS ?_
 refine AWP.ret ?_;subst hR;exact es
end N257
def D_zof : DF
 | [x0]=>some (.bool (zof (rdI x0)),false,[wI .i64 x0])
 | _=>none
theorem yh2:OkD Tryz.prog 257 D_zof:=by unfold D_zof;exact dk N257.den
def zod (a0:Character):Bool:=
 (bif ((!(zof a0.Kind)) || (!(zob a0.Colors)))then false else(bif (a0.Kind == 1)then(((a0.Group.length:Int) == 0) && (a0.Letter == []))else(bif (a0.Kind == 3)then(((a0.Group.length:Int) == 0) && (a0.Letter == []))else(bif (a0.Kind == 6)then(bif (a0.Letter == [76])then(((a0.Group.length:Int) == 1) && ((a0.Group.getD 0 default) == 6))else(((a0.Letter == []) && decide ((a0.Group.length:Int)<=1)) && (zgc a0.Group)))else(bif (a0.Kind == 7)then(bif (a0.Letter == [76])then(((a0.Group.length:Int) == 1) && ((a0.Group.getD 0 default) == 6))else(((a0.Letter == []) && decide ((a0.Group.length:Int)<=1)) && (zgc a0.Group)))else(bif (a0.Kind == 8)then(((((a0.Group.length:Int) == 0) && ((a0.Letter.length:Int) == 1)) && decide (65<=((a0.Letter.getD 0 0).toNat:Int))) && decide (((a0.Letter.getD 0 0).toNat:Int)<=90))else((a0.Letter == []) && (zgc a0.Group))))))))
namespace N201
theorem DD:DOk Tryz.prog (Go.Ab.DD [(233,dP D_zgc),(257,dP D_zof),(258,dP D_zob)]):=ya ygu.e <| ya yh2.e <| ya y12.e <| ye _
theorem dn:type_of% (And.intro @D_zgc.eq_1 <| And.intro @D_zof.eq_1 <| @D_zob.eq_1):=by and_intros<;>intros<;>rfl
theorem den (a0:Character)  : Den Tryz.prog 201 [.ep (yi a0)] (.bool (zod a0)):=by
 generalize hR:zod a0=r;unfold zod at hR;refine di Tryz.func201 Tryz.ntmps201 Tryz.results201 ?_;intro c hL hc hk;obtain⟨hL0,_⟩:=hL;have hw0:bwCharacter a0:=yu a0 hL0;clear hL0;simp only[pars,Nat.zero_add];iterate 2 refine rS ?_
 refine AWP.cond rfl (fun hb => ?_) (fun hb => ?_)
 ·replace hR:=ct hR
  refine rS ?_;refine AWP.ret ?_;subst hR;exact es
 ·replace hR:=cf hR
  iterate 2 refine rS ?_
  refine AWP.cond rfl (fun hb => ?_) (fun hb => ?_)
  ·replace hR:=ct hR
   refine AWP.skip ?_;refine AWP.cond rfl (fun hb => ?_) (fun hb => ?_)
   ·refine rS ?_
    refine AWP.ret ?_;subst hR;exact es
   ·exfalso;simp_all
  ·replace hR:=cf hR
   refine rS ?_;refine AWP.cond rfl (fun hb => ?_) (fun hb => ?_)
   ·replace hR:=ct hR
    refine rS ?_;refine AWP.ret ?_;subst hR;exact es
   ·replace hR:=cf hR
    refine rS ?_;refine AWP.cond rfl (fun hb => ?_) (fun hb => ?_)
    ·replace hR:=ct hR
     refine AWP.skip ?_;refine AWP.cond rfl (fun hb => ?_) (fun hb => ?_)
     ·refine rS ?_
      refine AWP.cond rfl (fun hb => ?_) (fun hb => ?_)
      ·replace hR:=ct hR
       refine rS ?_;refine AWP.ret ?_;subst hR;exact es
      ·replace hR:=cf hR
       refine rS ?_;refine AWP.ret ?_;subst hR;exact es
     ·exfalso;simp_all
    ·replace hR:=cf hR
     refine rS ?_;refine AWP.cond rfl (fun hb => ?_) (fun hb => ?_)
     ·replace hR:=ct hR
      refine rS ?_;refine AWP.cond rfl (fun hb => ?_) (fun hb => ?_)
      ·replace hR:=ct hR
       refine rS ?_;refine AWP.ret ?_;subst hR;exact es
      ·replace hR:=cf hR
       refine rS ?_;refine AWP.ret ?_;subst hR;exact es
     ·replace hR:=cf hR
      refine rS ?_;refine AWP.cond rfl (fun hb => ?_) (fun hb => ?_)
      ·replace hR:=ct hR
       refine rS ?_;refine AWP.ret ?_;subst hR;exact es
      ·replace hR:=cf hR
       refine rS ?_;refine AWP.ret ?_;subst hR;exact es
end N201
def D_zod : DF
 | [x0]=>some (.bool (zod (rdP yd x0)),false,[wP yi yd x0])
 | _=>none
theorem yz3:OkD Tryz.prog 201 D_zod:=by unfold D_zod;exact dk N201.den
def yfm (a0:Int) (i1:Nat) (s1:List Int):Except ((List Int)) (List Int):=
 (bif ((((([[46,45],[45,46,46,46],[45,46,45,46],[45,46,46],[46],[46,46,45,46],[45,45,46],[46,46,46,46],[46,46],[46,45,45,45],[45,46,45],[46,45,46,46],[45,45],[45,46],[45,45,45],[46,45,45,46],[45,45,46,45],[46,45,46],[46,46,46],[45],[46,46,45],[46,46,46,45],[46,45,45],[45,46,46,45],[45,46,45,45],[45,45,46,46]]:List (List UInt8)).getD ((IntKind.wrap .u8 (a0-65)).toNat) default).getD i1 0).toNat:Int) == 46)then .ok (s1++([5]:List Int))else .ok (s1++([15]:List Int)))
def zbc (a0:Int):(List Int):=
 (match yf (yfm a0) (((([[46,45],[45,46,46,46],[45,46,45,46],[45,46,46],[46],[46,46,45,46],[45,45,46],[46,46,46,46],[46,46],[46,45,45,45],[45,46,45],[46,45,46,46],[45,45],[45,46],[45,45,45],[46,45,45,46],[45,45,46,45],[46,45,46],[46,46,46],[45],[46,46,45],[46,46,46,45],[46,45,45],[45,46,46,45],[45,46,45,45],[45,45,46,46]]:List (List UInt8)).getD ((IntKind.wrap .u8 (a0-65)).toNat) default).length)-0) 0 ([]:List Int)with|.error e=>e|.ok s1=>s1)
namespace N309
theorem DD:DOk Tryz.prog (Go.Ab.DD []):=ye _
theorem lx {p:Prop} (h:p:=by(exact lxx);first|done|fail):p:=h
theorem den (a0:Int) (hp0:65<=a0) (hp1:a0<=90):Den Tryz.prog 309 [.int .u8 a0] (ownL 2 1 yw (zbc a0)):=by
 generalize hR:zbc a0=r;unfold zbc at hR;refine di Tryz.func309 Tryz.ntmps309 Tryz.results309 ?_;intro c hL hc hk;clear hL;simp only[pars,Nat.zero_add];have hs9:=ys1 (IntKind.wrap .u8 (a0-65)).toNat;have hw9:IntKind.wrap .u8 (a0-65)=a0-65:=y8k _ (by omega) (by omega);iterate 5 refine rS ?_
 refine AWP.block ?_;generalize hz1:yf (yfm a0) (((([[46,45],[45,46,46,46],[45,46,45,46],[45,46,46],[46],[46,46,45,46],[45,45,46],[46,46,46,46],[46,46],[46,45,45,45],[45,46,45],[46,45,46,46],[45,45],[45,46],[45,45,45],[46,45,45,46],[45,45,46,45],[46,45,46],[46,46,46],[45],[46,46,45],[46,46,46,45],[46,45,45],[45,46,46,45],[45,46,45,45],[45,45,46,46]]:List (List UInt8)).getD ((IntKind.wrap .u8 (a0-65)).toNat) default).length)-0) 0 ([]:List Int)=z1 at hR;refine AWP.range (yfm a0) (fun i1 s1=>⟨[(4,.str (([[46,45],[45,46,46,46],[45,46,45,46],[45,46,46],[46],[46,46,45,46],[45,45,46],[46,46,46,46],[46,46],[46,45,45,45],[45,46,45],[46,45,46,46],[45,45],[45,46],[45,45,45],[46,45,45,46],[45,45,46,45],[46,45,46],[46,46,46],[45],[46,46,45],[46,46,46,45],[46,45,45],[45,46,46,45],[45,46,45,45],[45,45,46,46]]:List (List UInt8)).getD ((IntKind.wrap .u8 (a0-65)).toNat) default)),(5,.ref 0 1 0 s1.length),(6,.int .i64 (i1:Int))],[.arr 2 1 s1.length (fun j=>yw (s1.getD j default))]⟩) (fun i1 s1=>s1.length<=([]:List Int).length+1 * i1/\s1.length<=i1) (((([[46,45],[45,46,46,46],[45,46,45,46],[45,46,46],[46],[46,46,45,46],[45,45,46],[46,46,46,46],[46,46],[46,45,45,45],[45,46,45],[46,45,46,46],[45,45],[45,46],[45,45,45],[46,45,45,46],[45,45,46,45],[46,45,46],[46,46,46],[45],[46,46,45],[46,46,46,45],[46,45,45],[45,46,46,45],[45,46,45,45],[45,45,46,46]]:List (List UInt8)).getD ((IntKind.wrap .u8 (a0-65)).toNat) default).length)) 0 ([]:List Int) [1] hz1 ot wt sm ?_;clear hz1;intro i1 s1 hi1 hW1 hz1;refine rS ?_;refine AWP.cond rfl (fun hb => ?_) (fun hb => ?_)
 ·have hlt1:i1<((([[46,45],[45,46,46,46],[45,46,45,46],[45,46,46],[46],[46,46,45,46],[45,45,46],[46,46,46,46],[46,46],[46,45,45,45],[45,46,45],[46,45,46,46],[45,45],[45,46],[45,45,45],[46,45,45,46],[45,45,46,45],[46,45,46],[46,46,46],[45],[46,46,45],[46,46,46,45],[46,45,45],[45,46,46,45],[45,46,45,45],[45,45,46,46]]:List (List UInt8)).getD ((IntKind.wrap .u8 (a0-65)).toNat) default).length):=ot
  rw[yp hlt1]at hz1;simp only[yfm]at hz1;refine rS ?_;refine AWP.cond rfl (fun hb => ?_) (fun hb => ?_)
  ·simp only[hb,cond_true]at hz1
   iterate 2 refine rS ?_
   exact⟨_,[2],hlt1,wt,hz1,sm⟩
  ·simp only[hb,cond_false]at hz1
   iterate 2 refine rS ?_
   exact⟨_,[2],hlt1,wt,hz1,sm⟩
 ·obtain rfl:i1=((([[46,45],[45,46,46,46],[45,46,45,46],[45,46,46],[46],[46,46,45,46],[45,45,46],[46,46,46,46],[46,46],[46,45,45,45],[45,46,45],[46,45,46,46],[45,45],[45,46],[45,45,45],[46,45,45,46],[45,45,46,45],[46,45,46],[46,46,46],[45],[46,46,45],[46,46,46,45],[46,45,45],[45,46,46,45],[45,46,45,45],[45,45,46,46]]:List (List UInt8)).getD ((IntKind.wrap .u8 (a0-65)).toNat) default).length):=ot
  rw[yq (Nat.le_refl _)]at hz1;subst hz1;dsimp only at hR;refine AWP.exit ?_;refine yb ?_;refine rS ?_;refine AWP.ret ?_;subst hR;exact es
end N309
def D_zbc : DF
 | [x0]=>some (ownL 2 1 yw (zbc (rdI x0)),false,[wI .u8 x0,65<=(rdI x0),(rdI x0)<=90])
 | _=>none
theorem y72:OkD Tryz.prog 309 D_zbc:=by unfold D_zbc;exact dk N309.den
theorem yeg (a:Int):zbc a=(y6c.getD (IntKind.wrap .u8 (a-65)).toNat default).map (fun c=>if c=46 then(5:Int)else 15):=by
 have h:=y1c (yfm a) (fun j=>[if((y6c.getD (IntKind.wrap .u8 (a-65)).toNat default).getD j 0)=46 then(5:Int)else 15]) (y6c.getD (IntKind.wrap .u8 (a-65)).toNat default).length 0 [] (fun j s _ _=>by
  show(bif ((((y6c.getD (IntKind.wrap .u8 (a-65)).toNat default).getD j 0).toNat:Int) == 46)then(.ok (s++[5]):Except (List Int) (List Int))else .ok (s++[15]))=_;generalize (y6c.getD (IntKind.wrap .u8 (a-65)).toNat default).getD j 0=c;by_cases hc:c=46
  ·subst hc;rfl
  ·have:((c.toNat:Int) == 46)=false:=by
    rw[beq_eq_false_iff_ne];intro h;exact hc (UInt8.toNat_inj.1 (by show c.toNat=46;omega))
   rw[this,if_neg hc];rfl)
 have e:zbc a=(match yf (yfm a) (y6c.getD (IntKind.wrap .u8 (a-65)).toNat default).length 0 ([]:List Int)with|.error e=>e|.ok s1=>s1):=rfl;rw[e,h];simp only[List.nil_append];exact y9e _ 0 (fun c=>if c=46 then(5:Int)else 15)
theorem ytr (a:Int):(zbc a).length<=4:=by
 rw[yeg,List.length_map];exact y6k _
def zkb (a0:Character):Bool:=
 ((a0.Kind == 1) || (((a0.Kind == 6) || (a0.Kind == 7)) && ((a0.Group.length:Int) == 0)))
namespace N202
theorem DD:DOk Tryz.prog (Go.Ab.DD []):=ye _
theorem den (a0:Character)  : Den Tryz.prog 202 [.ep (yi a0)] (.bool (zkb a0)):=by
 generalize hR:zkb a0=r;unfold zkb at hR;refine di Tryz.func202 Tryz.ntmps202 Tryz.results202 ?_;intro c hL hc hk;obtain⟨hL0,_⟩:=hL;have hw0:bwCharacter a0:=yu a0 hL0;clear hL0;simp only[pars,Nat.zero_add];iterate 2 refine rS ?_
 refine AWP.ret ?_;subst hR;exact es
end N202
def D_zkb : DF
 | [x0]=>some (.bool (zkb (rdP yd x0)),false,[wP yi yd x0])
 | _=>none
theorem yyn:OkD Tryz.prog 202 D_zkb:=by unfold D_zkb;exact dk N202.den
def y6q (a0:(List Int)) (i1:Nat) (s1:Int):Except (Int) (Int):=
 .ok (IntKind.wrap .i64 (s1+(a0.getD i1 default)))
def zud (a0:(List Int)):Int:=
 (match yf (y6q a0) (a0.length-0) 0 0 with|.error e=>e|.ok s1=>s1)
namespace N259
theorem DD:DOk Tryz.prog (Go.Ab.DD []):=ye _
theorem den (a0:(List Int))  : Den Tryz.prog 259 [encL 1 yw a0] (.int .i64 (zud a0)):=by
 generalize hR:zud a0=r;unfold zud at hR;refine di Tryz.func259 Tryz.ntmps259 Tryz.results259 ?_;intro c hL hc hk;obtain⟨hL0,_⟩:=hL;have hw0:a0.length<9223372036854775808:=Nat.lt_succ_of_le (yc hL0).1;clear hL0;simp only[pars,Nat.zero_add];iterate 3 refine rS ?_
 refine AWP.block ?_;generalize hz1:yf (y6q a0) (a0.length-0) 0 0=z1 at hR;refine AWP.range (y6q a0) (fun i1 s1=>⟨[(0,encL 1 yw a0),(3,.int .i64 s1),(4,.int .i64 (i1:Int))],[]⟩) (fun i1 s1=>True) (a0.length) 0 0 [] hz1 ot wt sm ?_;clear hz1;intro i1 s1 hi1 hW1 hz1;refine rS ?_;refine AWP.cond rfl (fun hb => ?_) (fun hb => ?_)
 ·have hlt1:i1<a0.length:=ot
  rw[yp hlt1]at hz1;simp only[y6q]at hz1;iterate 2 refine rS ?_
  exact⟨_,[],hlt1,wt,hz1,sm⟩
 ·obtain rfl:i1=a0.length:=ot
  rw[yq (Nat.le_refl _)]at hz1;subst hz1;dsimp only at hR;refine AWP.exit ?_;refine yb ?_;refine rS ?_;refine AWP.ret ?_;subst hR;exact es
end N259
def D_zud : DF
 | [x0]=>some (.int .i64 (zud (rdL y4b x0)),false,[wL 1 yw y4b x0])
 | _=>none
theorem yy2:OkD Tryz.prog 259 D_zud:=by unfold D_zud;exact dk N259.den
def znc (a0:Int):Int:=
 (bif (a0 == 2)then 10 else(bif (a0 == 4)then 15 else(bif (a0 == 5)then 20 else(bif (a0 == 7)then 3 else 5))))
namespace N310
theorem DD:DOk Tryz.prog (Go.Ab.DD []):=ye _
theorem den (a0:Int)  : Den Tryz.prog 310 [.int .i64 a0] (.int .i64 (znc a0)):=by
 generalize hR:znc a0=r;unfold znc at hR;refine di Tryz.func310 Tryz.ntmps310 Tryz.results310 ?_;intro c hL hc hk;clear hL;simp only[pars,Nat.zero_add];iterate 3 refine rS ?_
 refine AWP.cond rfl (fun hb => ?_) (fun hb => ?_)
 ·replace hR:=ct hR
  refine rS ?_;refine AWP.ret ?_;subst hR;exact es
 ·replace hR:=cf hR
  refine rS ?_;refine AWP.cond rfl (fun hb => ?_) (fun hb => ?_)
  ·replace hR:=ct hR
   refine rS ?_;refine AWP.ret ?_;subst hR;exact es
  ·replace hR:=cf hR
   refine rS ?_;refine AWP.cond rfl (fun hb => ?_) (fun hb => ?_)
   ·replace hR:=ct hR
    refine rS ?_;refine AWP.ret ?_;subst hR;exact es
   ·replace hR:=cf hR
    refine rS ?_;refine AWP.cond rfl (fun hb => ?_) (fun hb => ?_)
    ·replace hR:=ct hR
     refine rS ?_;refine AWP.ret ?_;subst hR;exact es
    ·replace hR:=cf hR
     refine rS ?_;refine AWP.ret ?_;subst hR;exact es
end N310
def D_znc : DF
 | [x0]=>some (.int .i64 (znc (rdI x0)),false,[wI .i64 x0])
 | _=>none
theorem ygv:OkD Tryz.prog 310 D_znc:=by unfold D_znc;exact dk N310.den
def zfe (a0:Int):Int:=
 (bif (a0 == 2)then 10 else(bif (a0 == 5)then 20 else(bif (a0 == 7)then 2 else 5)))
namespace N311
theorem DD:DOk Tryz.prog (Go.Ab.DD []):=ye _
theorem den (a0:Int)  : Den Tryz.prog 311 [.int .i64 a0] (.int .i64 (zfe a0)):=by
 generalize hR:zfe a0=r;unfold zfe at hR;refine di Tryz.func311 Tryz.ntmps311 Tryz.results311 ?_;intro c hL hc hk;clear hL;simp only[pars,Nat.zero_add];iterate 3 refine rS ?_
 refine AWP.cond rfl (fun hb => ?_) (fun hb => ?_)
 ·replace hR:=ct hR
  refine rS ?_;refine AWP.ret ?_;subst hR;exact es
 ·replace hR:=cf hR
  refine rS ?_;refine AWP.cond rfl (fun hb => ?_) (fun hb => ?_)
  ·replace hR:=ct hR
   refine rS ?_;refine AWP.ret ?_;subst hR;exact es
  ·replace hR:=cf hR
   refine rS ?_;refine AWP.cond rfl (fun hb => ?_) (fun hb => ?_)
   ·replace hR:=ct hR
    refine rS ?_;refine AWP.ret ?_;subst hR;exact es
   ·replace hR:=cf hR
    refine rS ?_;refine AWP.ret ?_;subst hR;exact es
end N311
def D_zfe : DF
 | [x0]=>some (.int .i64 (zfe (rdI x0)),false,[wI .i64 x0])
 | _=>none
theorem ya2:OkD Tryz.prog 311 D_zfe:=by unfold D_zfe;exact dk N311.den
def zgf (a0:Character):Int:=
 (bif (a0.Kind == 6)then 20 else(bif (a0.Kind == 7)then 10 else(bif (a0.Kind == 8)then 30 else(bif decide (1<(a0.Group.length:Int))then IntKind.wrap .i64 ((IntKind.wrap .i64 ((znc a0.Kind)+5))+20)else IntKind.wrap .i64 ((znc a0.Kind)+5)))))
namespace N261
theorem DD:DOk Tryz.prog (Go.Ab.DD [(310,dP D_znc)]):=ya ygv.e <| ye _
theorem dn:type_of% (@D_znc.eq_1):=by and_intros<;>intros<;>rfl
theorem den (a0:Character)  : Den Tryz.prog 261 [.ep (yi a0)] (.int .i64 (zgf a0)):=by
 generalize hR:zgf a0=r;unfold zgf at hR;refine di Tryz.func261 Tryz.ntmps261 Tryz.results261 ?_;intro c hL hc hk;obtain⟨hL0,_⟩:=hL;have hw0:bwCharacter a0:=yu a0 hL0;clear hL0;simp only[pars,Nat.zero_add];iterate 3 refine rS ?_
 refine AWP.cond rfl (fun hb => ?_) (fun hb => ?_)
 ·replace hR:=ct hR
  refine rS ?_;refine AWP.ret ?_;subst hR;exact es
 ·replace hR:=cf hR
  refine rS ?_;refine AWP.cond rfl (fun hb => ?_) (fun hb => ?_)
  ·replace hR:=ct hR
   refine rS ?_;refine AWP.ret ?_;subst hR;exact es
  ·replace hR:=cf hR
   refine rS ?_;refine AWP.cond rfl (fun hb => ?_) (fun hb => ?_)
   ·replace hR:=ct hR
    refine rS ?_;refine AWP.ret ?_;subst hR;exact es
   ·replace hR:=cf hR
    iterate 2 refine rS ?_
    refine AWP.cond rfl (fun hb => ?_) (fun hb => ?_)
    ·replace hR:=ct hR
     iterate 2 refine rS ?_
     refine AWP.ret ?_;subst hR;exact es
    ·replace hR:=cf hR
     refine rS ?_;refine AWP.ret ?_;subst hR;exact es
end N261
def D_zgf : DF
 | [x0]=>some (.int .i64 (zgf (rdP yd x0)),false,[wP yi yd x0])
 | _=>none
theorem y41:OkD Tryz.prog 261 D_zgf:=by unfold D_zgf;exact dk N261.den
def yso (a0:(List Sector)) (i1:Nat) (s1:List UInt8) (i2:Nat) (s2:List UInt8):Except (Sum ((List UInt8)) (List UInt8)) (List UInt8):=
 (bif (((a0.getD i2 default).Color) == ([[87],[82],[71],[89]].getD i1 default))then .error (.inr (s2++([[87],[82],[71],[89]].getD i1 default)))else .ok s2)
def y2l (a0:(List Sector)) (i1:Nat) (s1:List UInt8):Except ((List UInt8)) (List UInt8):=
 (match yf (yso a0 i1 s1) (a0.length-0) 0 s1 with|.error (.inl e)=>.error e|.error (.inr s2)=>.ok s2|.ok s2=>.ok s2)
def zlb (a0:(List Sector)):(List UInt8):=
 (match yf (y2l a0) (4-0) 0 []with|.error e=>e|.ok s1=>s1)
namespace N124
theorem DD:DOk Tryz.prog (Go.Ab.DD []):=ye _
theorem o0 {p:Prop} (h:p:=by(first|(have h4:=hq4 i1;have h1:=hW1;have h2:=hW2;and_intros<;>omega));first|done|fail):p:=h
theorem lx {p:Prop} (h:p:=by(exact lxx);first|done|fail):p:=h
theorem den (a0:(List Sector)) (hb0:a0.length<1099511627776) (hb1:∀ v∈a0,bdSector v):Den Tryz.prog 124 [encL 3 yl a0] (.str (zlb a0)):=by
 generalize hR:zlb a0=r;unfold zlb at hR;refine di Tryz.func124 Tryz.ntmps124 Tryz.results124 ?_;intro c hL hc hk;obtain⟨hL0,_⟩:=hL;have hw0:a0.length<9223372036854775808:=Nat.lt_succ_of_le (yc hL0).1;have hw1:∀ v∈a0,bwSector v:=fun v hv=>y9 v ((yc hL0).2 v hv)
 clear hL0;simp only[pars,Nat.zero_add];have hq4:∀ i:Nat,(([[87],[82],[71],[89]]:List (List UInt8)).getD i default).length<=1:=fun i=>by rcases i with _|_|_|_|i<;>first|exact Nat.le_refl _|exact Nat.zero_le _
 iterate 4 refine rS ?_
 refine AWP.block ?_;generalize hz1:yf (y2l a0) (4-0) 0 []=z1 at hR;refine AWP.range (y2l a0) (fun i1 s1=>⟨[(0,encL 3 yl a0),(3,.str s1),(4,.ref 0 1 0 4),(5,.int .i64 (i1:Int))],[.arr 9 1 [[87],[82],[71],[89]].length (fun j=>eS ([[87],[82],[71],[89]].getD j default))]⟩) (fun i1 s1=>s1.length<=i1) (4) 0 [] [0] hz1 ot (by(simp)) sm ?_;clear hz1;intro i1 s1 hi1 hW1 hz1;refine rS ?_;refine AWP.cond rfl (fun hb => ?_) (fun hb => ?_)
 ·have hlt1:i1<4:=ot
  rw[yp hlt1]at hz1;simp only[y2l]at hz1;refine rS ?_;refine AWP.block ?_;generalize hz2:yf (yso a0 i1 s1) (a0.length-0) 0 s1=z2 at hz1;refine AWP.range (yso a0 i1 s1) (fun i2 s2=>⟨[(0,encL 3 yl a0),(3,.str s2),(4,.ref 0 1 0 4),(5,.int .i64 (i1:Int)),(6,.int .i64 (i2:Int))],[.arr 9 1 [[87],[82],[71],[89]].length (fun j=>eS ([[87],[82],[71],[89]].getD j default))]⟩) (fun i2 s2=>s2.length<=i1) (a0.length) 0 s1 [0] hz2 ot (by(exact hW1)) sm ?_;clear hz2;intro i2 s2 hi2 hW2 hz2;refine rS ?_;refine AWP.cond rfl (fun hb => ?_) (fun hb => ?_)
  ·have hlt2:i2<a0.length:=ot
   rw[yp hlt2]at hz2;simp only[yso]at hz2;refine rD 9 ?_;refine AWP.cond rfl (fun hb => ?_) (fun hb => ?_)
   ·simp only[hb,cond_true]at hz2
    refine rS ?_;refine AWP.exit ?_;refine yxi rfl ?_;refine yb ?_;subst hz2;dsimp only at hz1;refine rS ?_;exact⟨_,[0],hlt1,by(have h4:=hq4 i1;simp only[ln]at *;omega),hz1,sm⟩
   ·simp only[hb,cond_false]at hz2
    refine rS ?_;exact⟨_,[0],hlt2,by(first|exact hW2|assumption),hz2,sm⟩
  ·obtain rfl:i2=a0.length:=ot
   rw[yq (Nat.le_refl _)]at hz2;subst hz2;dsimp only at hz1;refine AWP.exit ?_;refine yb ?_;refine rS ?_;exact⟨_,[0],hlt1,by(have h4:=hq4 i1;simp only[ln]at *;omega),hz1,sm⟩
 ·obtain rfl:i1=4:=ot
  rw[yq (Nat.le_refl _)]at hz1;subst hz1;dsimp only at hR;refine AWP.exit ?_;refine yb ?_;refine rS ?_;refine AWP.ret ?_;subst hR;exact es
end N124
def D_zlb : DF
 | [x0]=>some (.str (zlb (rdL yv x0)),false,[wL 3 yl yv x0,(rdL yv x0).length<1099511627776,∀ v∈(rdL yv x0),bdSector v])
 | _=>none
theorem y4u:OkD Tryz.prog 124 D_zlb:=by unfold D_zlb;exact dk N124.den
def zdc (a0:Point):Bool:=
 ((zn a0.X 0 200000) && (zn a0.Y 0 200000))
namespace N119
theorem DD:DOk Tryz.prog (Go.Ab.DD [(95,dP D_zn)]):=ya yig.e <| ye _
theorem dn:type_of% (@D_zn.eq_1):=by and_intros<;>intros<;>rfl
theorem ol:type_of% (@zn.eq_1):=@zn.eq_1
theorem den (a0:Point)  : Den Tryz.prog 119 [.agg (yve a0)] (.bool (zdc a0)):=by
 generalize hR:zdc a0=r;unfold zdc at hR;refine di Tryz.func119 Tryz.ntmps119 Tryz.results119 ?_;intro c hL hc hk;clear hL;simp only[pars,Nat.zero_add];iterate 2 refine rS ?_
 refine AWP.ret ?_;subst hR;exact es
end N119
def D_zdc : DF
 | [x0]=>some (.bool (zdc (rdG yoi x0)),false,[wG yve yoi x0])
 | _=>none
theorem yn1:OkD Tryz.prog 119 D_zdc:=by unfold D_zdc;exact dk N119.den
def zvc (a0:Character):Bool:=
 (((((a0.Kind == 0) && ((a0.Group.length:Int) == 0)) && (a0.Letter == [])) && (a0.Colors == [])) && (a0.Period == 0))
namespace N121
theorem DD:DOk Tryz.prog (Go.Ab.DD []):=ye _
theorem den (a0:Character)  : Den Tryz.prog 121 [.ep (yi a0)] (.bool (zvc a0)):=by
 generalize hR:zvc a0=r;unfold zvc at hR;refine di Tryz.func121 Tryz.ntmps121 Tryz.results121 ?_;intro c hL hc hk;obtain⟨hL0,_⟩:=hL;have hw0:bwCharacter a0:=yu a0 hL0;clear hL0;simp only[pars,Nat.zero_add];iterate 2 refine rS ?_
 refine AWP.ret ?_;subst hR;exact es
end N121
def D_zvc : DF
 | [x0]=>some (.bool (zvc (rdP yd x0)),false,[wP yi yd x0])
 | _=>none
theorem y13:OkD Tryz.prog 121 D_zvc:=by unfold D_zvc;exact dk N121.den
def zpf (a0:Aid):Bool:=
 (a0.Light.Kind != 0)
def zug  : (List (List UInt8)):=
 ([[110,111,110,101],[108,101,102,116],[114,105,103,104,116],[110,111,114,116,104],[101,97,115,116],[115,111,117,116,104],[119,101,115,116],[100,97,110,103,101,114],[115,97,102,101],[115,112,101,99,105,97,108]]:List (List UInt8))
def zr (a0:Int) (a1:Int):Int:=
 (bif decide (a0<a1)then a0 else a1)
namespace N234
theorem DD:DOk Tryz.prog (Go.Ab.DD []):=ye _
theorem den (a0:Int) (a1:Int)  : Den Tryz.prog 234 [.int .i64 a0,.int .i64 a1] (.int .i64 (zr a0 a1)):=by
 generalize hR:zr a0 a1=r;unfold zr at hR;refine di Tryz.func234 Tryz.ntmps234 Tryz.results234 ?_;intro c hL hc hk;clear hL;simp only[pars,Nat.zero_add];iterate 2 refine rS ?_
 refine AWP.cond rfl (fun hb => ?_) (fun hb => ?_)
 ·replace hR:=ct hR
  refine rS ?_;refine AWP.ret ?_;subst hR;exact es
 ·replace hR:=cf hR
  refine rS ?_;refine AWP.ret ?_;subst hR;exact es
end N234
def D_zr : DF
 | [x0,x1]=>some (.int .i64 (zr (rdI x0) (rdI x1)),false,[wI .i64 x0,wI .i64 x1])
 | _=>none
theorem yt5:OkD Tryz.prog 234 D_zr:=by unfold D_zr;exact dk N234.den
def yik (a0:l00Src) (q2:l00Src) (q8:l00Src) (q10:l00Src) (s1:Int×Int×l00Src×List Sector):Except (Sum ((List Sector)×l00Src) (Int×Int×l00Src×List Sector)) (Int×Int×l00Src×List Sector):=
 (bif decide (0<s1.2.1)then(bnd ((za s1.2.2.1 70).2) fun q20=>(bif (decide ((IntKind.wrap .i64 (((za q2 60).1)+360))<(IntKind.wrap .i64 (s1.1+(IntKind.wrap .i64 (((za s1.2.2.1 70).1)+1))))) || decide (359<s1.1))then .error (.inr (s1.1,s1.2.1,q20,s1.2.2.2))else(bnd ((zw q20 [[87],[82],[71],[89]]).2) fun q22=>(bnd ((zh q22 2).2) fun q24=>(bif ((zh q22 2).1)then(bnd ((za q24 40).2) fun q26=>.ok (IntKind.wrap .i64 ((IntKind.wrap .i64 (s1.1+(IntKind.wrap .i64 (((za s1.2.2.1 70).1)+1))))+((za q24 40).1)),IntKind.wrap .i64 (s1.2.1-1),q26,s1.2.2.2++[{ From:=s1.1,To:=(IntKind.wrap .i64 (s1.1+(IntKind.wrap .i64 (((za s1.2.2.1 70).1)+1)))).tmod 360,Color:=((zw q20 [[87],[82],[71],[89]]).1):Sector }]))else .ok (IntKind.wrap .i64 (s1.1+(IntKind.wrap .i64 (((za s1.2.2.1 70).1)+1))),IntKind.wrap .i64 (s1.2.1-1),q24,s1.2.2.2++[{ From:=s1.1,To:=(IntKind.wrap .i64 (s1.1+(IntKind.wrap .i64 (((za s1.2.2.1 70).1)+1)))).tmod 360,Color:=((zw q20 [[87],[82],[71],[89]]).1):Sector }]))))))else .error (.inr (s1.1,s1.2.1,s1.2.2.1,s1.2.2.2)))
def zbb (a0:l00Src):(List Sector)×l00Src:=
 (bnd ((za a0 6).2) fun q2=>(bif (((za a0 6).1) == 0)then(([]:List Sector),q2)else(bif (((za a0 6).1) == 1)then(bnd ((za q2 360).2) fun q4=>(bnd ((zw q4 [[87],[82],[71],[89]]).2) fun q6=>([{ From:=((za q2 360).1),To:=((za q2 360).1),Color:=((zw q4 [[87],[82],[71],[89]]).1):Sector }],q6)))else(bnd ((za q2 60).2) fun q8=>(bnd ((za q8 5).2) fun q10=>(match y0 (yik a0 q2 q8 q10) ((((IntKind.wrap .i64 (((za q8 5).1)+1))).toNat)+1) (((za q2 60).1),IntKind.wrap .i64 (((za q8 5).1)+1),q10,([]:List Sector))with|.error (.inl e)=>e|.error (.inr s1)=>(s1.2.2.2,s1.2.2.1)|.ok _=>default))))))
namespace N156
theorem DD:DOk Tryz.prog (Go.Ab.DD [(102,dM [true,false] D_za),(150,dM [true,false] D_zh),(152,dM [true,true] D_zw)]):=ya ycd.e <| ya ygi.e <| ya yen.e <| ye _
theorem dn:type_of% (And.intro @D_za.eq_1 <| And.intro @D_zh.eq_1 <| @D_zw.eq_1):=by and_intros<;>intros<;>rfl
theorem o1 {p:Prop} (h:p:=by(first|(refine SrcOk.mono (by repeat' first|assumption|exact SrcOk.next ‹_› | apply SrcOk.next|apply SrcOk.pick|apply SrcOk.one|apply SrcOk.among|apply SrcOk.text|apply SrcOk.colors|apply SrcOk.point|apply SrcOk.chr|apply SrcOk.sectors|apply SrcOk.aid|apply SrcOk.aids|apply SrcOk.notice|omega) (by omega))|(exact SrcOk.mono hW1.2.2.1 (by omega)));first|done|fail):p:=h
theorem o2 {p:Prop} (h:p:=by(first|((repeat' with_reducible apply And.intro)<;>first|(simp only[List.length_append,List.length_singleton];(first|done|fail))|(rw[IntKind.wrap_i64];omega)|(intro j hj;by_cases hji:j<s1.2.2.2.length;(focus(simp only[ybf hji,yll hji,cond_true];first|(first|done|fail)|with_reducible rfl));(have e0:j-s1.2.2.2.length=0:=by omega);(simp only[y8e hji hj,yzk hji,cond_false,e0,elt,borrowL,borrow];first|(first|done|fail)|with_reducible rfl))|decide));first|done|fail):p:=h
theorem lx {p:Prop} (h:p:=by(exact lxx);first|done|fail):p:=h
set_option maxHeartbeats 2000000 in
set_option maxRecDepth 20000 in
theorem den (a0:l00Src) (hp0:SrcOk 600000 a0):DenM Tryz.prog 156 [.op (yk a0)] (ownL 135 3 yl ((zbb a0).1)) [(.op (yk ((zbb a0).2)))]:=by
 generalize hR:zbb a0=r;unfold zbb at hR;refine dj (gb:=[true]) Tryz.func156 Tryz.ntmps156 Tryz.results156 ?_;intro c hL hc hk;obtain⟨hL0,_⟩:=hL;have hw0:bwl00Src a0:=yab a0 hL0;clear hL0;simp only[adEL,adE,adRL,adR,ownL,encL,sv,List.nil_append,List.append_nil,List.cons_append,List.length_cons,List.length_nil,pars,Nat.zero_add,Nat.reduceAdd]at hk ⊢;iterate 3 refine rS ?_
 generalize hq2:(za a0 6).2=q2 at hR ⊢;replace hR:=bn hR;have hS_q2:SrcOk (600002) q2:=by rw[<- hq2];exact SrcOk.pick hp0 (by omega)
 refine rS ?_;refine AWP.cond rfl (fun hb => ?_) (fun hb => ?_)
 ·replace hR:=ct hR
  refine rS ?_;refine AWP.ret ?_;subst hR;exact es
 ·replace hR:=cf hR
  refine rS ?_;refine AWP.cond rfl (fun hb => ?_) (fun hb => ?_)
  ·replace hR:=ct hR
   refine rS ?_;generalize hq4:(za q2 360).2=q4 at hR ⊢;replace hR:=bn hR;have hS_q4:SrcOk (600004) q4:=by rw[<- hq4];exact SrcOk.pick hS_q2 (by omega)
   refine rS ?_;generalize hq6:(zw q4 [[87],[82],[71],[89]]).2=q6 at hR ⊢;replace hR:=bn hR;have hS_q6:SrcOk (600006) q6:=by rw[<- hq6];exact SrcOk.text hS_q4 (by omega)
   refine AWP.ret ?_;subst hR;exact es
  ·replace hR:=cf hR
   refine rS ?_;generalize hq8:(za q2 60).2=q8 at hR ⊢;replace hR:=bn hR;have hS_q8:SrcOk (600004) q8:=by rw[<- hq8];exact SrcOk.pick hS_q2 (by omega)
   iterate 2 refine rS ?_
   generalize hq10:(za q8 5).2=q10 at hR ⊢;replace hR:=bn hR;have hS_q10:SrcOk (600006) q10:=by rw[<- hq10];exact SrcOk.pick hS_q8 (by omega)
   refine AWP.block ?_;generalize hz1:y0 (yik a0 q2 q8 q10) ((((IntKind.wrap .i64 (((za q8 5).1)+1))).toNat)+1) (((za q2 60).1),IntKind.wrap .i64 (((za q8 5).1)+1),q10,([]:List Sector))=z1 at hR;refine AWP.whileW (yik a0 q2 q8 q10) (fun s1=>⟨[(0,.ptr 0 0),(3,.ref 1 3 0 s1.2.2.2.length),(5,.int .i64 s1.1),(6,.int .i64 ((za q2 60).1)),(7,.int .i64 s1.2.1)],[.box [encL 1 eIu8 s1.2.2.1.code,.int .i64 s1.2.2.1.at_,.int .u64 s1.2.2.1.seed],.arr 135 3 s1.2.2.2.length (fun j=>yl (s1.2.2.2.getD j default))]⟩) (fun s1=>0<=s1.2.1/\s1.2.1<=5/\SrcOk (600040+20 * (5-s1.2.1)) s1.2.2.1/\s1.2.2.2.length<=(5-s1.2.1).toNat) (fun s1=>(s1.2.1).toNat) ((((IntKind.wrap .i64 (((za q8 5).1)+1))).toNat)+1) (((za q2 60).1),IntKind.wrap .i64 (((za q8 5).1)+1),q10,([]:List Sector)) [0,1] hz1 m0 (by(have h2:=yg 5 hS_q8 (by omega);have h3:=h2.2 (by omega);have hwr:IntKind.wrap .i64 (((za q8 5).1)+1)=((za q8 5).1)+1:=(by rw[IntKind.wrap_i64];omega);simp only[hwr];exact⟨by omega,by omega,SrcOk.mono (by assumption) (by omega),by simp⟩)) sm ?_;clear hz1;intro s1 k1 hW1 hm1 hz1;simp only[yik]at hz1;refine rS ?_;refine AWP.cond rfl (fun hb => ?_) (fun hb => ?_)
   ·simp only[hb,cond_true]at hz1
    refine rS ?_;generalize hq20:(za s1.2.2.1 70).2=q20 at hz1 ⊢;rw[bndv q20]at hz1;have hS_q20:SrcOk (600040+20 * (5-s1.2.1)+2) q20:=by rw[<- hq20];exact SrcOk.pick hW1.2.2.1 (by omega)
    refine rS ?_;refine AWP.cond rfl (fun hb => ?_) (fun hb => ?_)
    ·simp only[hb,cond_true]at hz1
     refine AWP.exit ?_;refine yxi rfl ?_;refine yb ?_;subst hz1;dsimp only at hR;refine rS ?_;refine AWP.ret ?_;subst hR;exact es
    ·simp only[hb,cond_false]at hz1
     iterate 2 refine rS ?_
     generalize hq22:(zw q20 [[87],[82],[71],[89]]).2=q22 at hz1 ⊢;rw[bndv q22]at hz1;have hS_q22:SrcOk (600040+20 * (5-s1.2.1)+2+2) q22:=by rw[<- hq22];exact SrcOk.text hS_q20 (by omega)
     iterate 3 refine rS ?_
     generalize hq24:(zh q22 2).2=q24 at hz1 ⊢;rw[bndv q24]at hz1;have hS_q24:SrcOk (600040+20 * (5-s1.2.1)+2+2+2) q24:=by rw[<- hq24];exact SrcOk.one hS_q22 (by omega)
     refine AWP.cond rfl (fun hb => ?_) (fun hb => ?_)
     ·simp only[hb,cond_true]at hz1
      refine rS ?_;generalize hq26:(za q24 40).2=q26 at hz1 ⊢;rw[bndv q26]at hz1;have hS_q26:SrcOk (600040+20 * (5-s1.2.1)+2+2+2+2) q26:=by rw[<- hq26];exact SrcOk.pick hS_q24 (by omega)
      refine rS ?_;clear hR;exact⟨_,[0,5],by(have hpos:0<s1.2.1:=of_decide_eq_true (by assumption);have hwr:IntKind.wrap .i64 (s1.2.1-1)=s1.2.1-1:=(by rw[IntKind.wrap_i64];omega);(try dsimp only);rw[hwr];omega),by(have hpos:0<s1.2.1:=of_decide_eq_true (by assumption);have hwr:IntKind.wrap .i64 (s1.2.1-1)=s1.2.1-1:=(by rw[IntKind.wrap_i64];omega);(try dsimp only);rw[hwr];have hG:=hW1.2.2.2;exact⟨by omega,by omega,SrcOk.mono (by assumption) (by omega),by simp only[List.length_append,List.length_cons,List.length_nil];omega⟩),hz1,sm⟩
     ·simp only[hb,cond_false]at hz1
      refine rS ?_;clear hR;exact⟨_,[0,5],by(have hpos:0<s1.2.1:=of_decide_eq_true (by assumption);have hwr:IntKind.wrap .i64 (s1.2.1-1)=s1.2.1-1:=(by rw[IntKind.wrap_i64];omega);(try dsimp only);rw[hwr];omega),by(have hpos:0<s1.2.1:=of_decide_eq_true (by assumption);have hwr:IntKind.wrap .i64 (s1.2.1-1)=s1.2.1-1:=(by rw[IntKind.wrap_i64];omega);(try dsimp only);rw[hwr];have hG:=hW1.2.2.2;exact⟨by omega,by omega,SrcOk.mono (by assumption) (by omega),by simp only[List.length_append,List.length_cons,List.length_nil];omega⟩),hz1,sm⟩
   ·simp only[hb,cond_false]at hz1
    refine AWP.exit ?_;refine yb ?_;subst hz1;dsimp only at hR;refine rS ?_;refine AWP.ret ?_;subst hR;exact es
end N156
def D_zbb : List AV -> Option (AV × List AV × List Prop)
 | [x0]=>some (ownL 135 3 yl ((zbb (rdQ yn x0)).1),[(.op (yk ((zbb (rdQ yn x0)).2)))],[wQ yk yn x0,SrcOk 600000 (rdQ yn x0)])
 | _=>none
theorem ys2:OkM Tryz.prog 156 D_zbb:=by unfold D_zbb;exact dm N156.den
def zxb (a0:l00Src):Point×l00Src:=
 (bnd ((zb a0 ([20,100,100,100]:List Int)).2) fun q2=>(bnd ((za q2 ((zb a0 ([20,100,100,100]:List Int)).1)).2) fun q4=>(bnd ((za q4 ((zb a0 ([20,100,100,100]:List Int)).1)).2) fun q6=>(bnd ((zh q6 3).2) fun q8=>(bif ((zh q6 3).1)then(bnd ((za q8 200).2) fun q10=>(bnd ((zh q10 3).2) fun q12=>(bif ((zh q10 3).1)then(bnd ((za q12 200).2) fun q14=>({ X:=IntKind.wrap .i64 ((IntKind.wrap .i64 (10000+(IntKind.wrap .i64 (((za q2 ((zb a0 ([20,100,100,100]:List Int)).1)).1) * 100))))+((za q8 200).1)),Y:=IntKind.wrap .i64 ((IntKind.wrap .i64 (10000+(IntKind.wrap .i64 (((za q4 ((zb a0 ([20,100,100,100]:List Int)).1)).1) * 100))))+((za q12 200).1)):Point },q14))else({ X:=IntKind.wrap .i64 ((IntKind.wrap .i64 (10000+(IntKind.wrap .i64 (((za q2 ((zb a0 ([20,100,100,100]:List Int)).1)).1) * 100))))+((za q8 200).1)),Y:=IntKind.wrap .i64 (10000+(IntKind.wrap .i64 (((za q4 ((zb a0 ([20,100,100,100]:List Int)).1)).1) * 100))):Point },q12))))else(bnd ((zh q8 3).2) fun q16=>(bif ((zh q8 3).1)then(bnd ((za q16 200).2) fun q18=>({ X:=IntKind.wrap .i64 (10000+(IntKind.wrap .i64 (((za q2 ((zb a0 ([20,100,100,100]:List Int)).1)).1) * 100))),Y:=IntKind.wrap .i64 ((IntKind.wrap .i64 (10000+(IntKind.wrap .i64 (((za q4 ((zb a0 ([20,100,100,100]:List Int)).1)).1) * 100))))+((za q16 200).1)):Point },q18))else({ X:=IntKind.wrap .i64 (10000+(IntKind.wrap .i64 (((za q2 ((zb a0 ([20,100,100,100]:List Int)).1)).1) * 100))),Y:=IntKind.wrap .i64 (10000+(IntKind.wrap .i64 (((za q4 ((zb a0 ([20,100,100,100]:List Int)).1)).1) * 100))):Point },q16))))))))
namespace N153
theorem DD:DOk Tryz.prog (Go.Ab.DD [(102,dM [true,false] D_za),(150,dM [true,false] D_zh),(151,dM [true,true] D_zb)]):=ya ycd.e <| ya ygi.e <| ya yyk.e <| ye _
theorem dn:type_of% (And.intro @D_za.eq_1 <| And.intro @D_zh.eq_1 <| @D_zb.eq_1):=by and_intros<;>intros<;>rfl
theorem o1 {p:Prop} (h:p:=by(first|(refine SrcOk.mono (by repeat' first|assumption|exact SrcOk.next ‹_› | apply SrcOk.next|apply SrcOk.pick|apply SrcOk.one|apply SrcOk.among|apply SrcOk.text|apply SrcOk.colors|apply SrcOk.point|apply SrcOk.chr|apply SrcOk.sectors|apply SrcOk.aid|apply SrcOk.aids|apply SrcOk.notice|omega) (by omega)));first|done|fail):p:=h
theorem lx {p:Prop} (h:p:=by(exact lxx);first|done|fail):p:=h
set_option maxHeartbeats 2000000 in
set_option maxRecDepth 20000 in
theorem den (a0:l00Src) (hp0:SrcOk 700000 a0):DenM Tryz.prog 153 [.op (yk a0)] (.agg (yve ((zxb a0).1))) [(.op (yk ((zxb a0).2)))]:=by
 generalize hR:zxb a0=r;unfold zxb at hR;refine dj (gb:=[true]) Tryz.func153 Tryz.ntmps153 Tryz.results153 ?_;intro c hL hc hk;obtain⟨hL0,_⟩:=hL;have hw0:bwl00Src a0:=yab a0 hL0;clear hL0;simp only[adEL,adE,adRL,adR,ownL,encL,sv,List.nil_append,List.append_nil,List.cons_append,List.length_cons,List.length_nil,pars,Nat.zero_add,Nat.reduceAdd]at hk ⊢;iterate 2 refine rS ?_
 generalize hq2:(zb a0 ([20,100,100,100]:List Int)).2=q2 at hR ⊢;replace hR:=bn hR;have hS_q2:SrcOk (700002) q2:=by rw[<- hq2];exact SrcOk.among hp0 (by omega)
 refine rS ?_;generalize hq4:(za q2 ((zb a0 ([20,100,100,100]:List Int)).1)).2=q4 at hR ⊢;replace hR:=bn hR;have hS_q4:SrcOk (700004) q4:=by rw[<- hq4];exact SrcOk.pick hS_q2 (by omega)
 refine rS ?_;generalize hq6:(za q4 ((zb a0 ([20,100,100,100]:List Int)).1)).2=q6 at hR ⊢;replace hR:=bn hR;have hS_q6:SrcOk (700006) q6:=by rw[<- hq6];exact SrcOk.pick hS_q4 (by omega)
 refine rS ?_;generalize hq8:(zh q6 3).2=q8 at hR ⊢;replace hR:=bn hR;have hS_q8:SrcOk (700008) q8:=by rw[<- hq8];exact SrcOk.one hS_q6 (by omega)
 refine AWP.cond rfl (fun hb => ?_) (fun hb => ?_)
 ·replace hR:=ct hR
  refine rS ?_;generalize hq10:(za q8 200).2=q10 at hR ⊢;replace hR:=bn hR;have hS_q10:SrcOk (700010) q10:=by rw[<- hq10];exact SrcOk.pick hS_q8 (by omega)
  refine rS ?_;generalize hq12:(zh q10 3).2=q12 at hR ⊢;replace hR:=bn hR;have hS_q12:SrcOk (700012) q12:=by rw[<- hq12];exact SrcOk.one hS_q10 (by omega)
  refine AWP.cond rfl (fun hb => ?_) (fun hb => ?_)
  ·replace hR:=ct hR
   refine rS ?_;generalize hq14:(za q12 200).2=q14 at hR ⊢;replace hR:=bn hR;have hS_q14:SrcOk (700014) q14:=by rw[<- hq14];exact SrcOk.pick hS_q12 (by omega)
   refine rS ?_;refine AWP.ret ?_;subst hR;exact es
  ·replace hR:=cf hR
   refine rS ?_;refine AWP.ret ?_;subst hR;exact es
 ·replace hR:=cf hR
  refine rS ?_;generalize hq16:(zh q8 3).2=q16 at hR ⊢;replace hR:=bn hR;have hS_q16:SrcOk (700010) q16:=by rw[<- hq16];exact SrcOk.one hS_q8 (by omega)
  refine AWP.cond rfl (fun hb => ?_) (fun hb => ?_)
  ·replace hR:=ct hR
   refine rS ?_;generalize hq18:(za q16 200).2=q18 at hR ⊢;replace hR:=bn hR;have hS_q18:SrcOk (700012) q18:=by rw[<- hq18];exact SrcOk.pick hS_q16 (by omega)
   refine rS ?_;refine AWP.ret ?_;subst hR;exact es
  ·replace hR:=cf hR
   refine rS ?_;refine AWP.ret ?_;subst hR;exact es
end N153
def D_zxb : List AV -> Option (AV × List AV × List Prop)
 | [x0]=>some (.agg (yve ((zxb (rdQ yn x0)).1)),[(.op (yk ((zxb (rdQ yn x0)).2)))],[wQ yk yn x0,SrcOk 700000 (rdQ yn x0)])
 | _=>none
theorem y10:OkM Tryz.prog 153 D_zxb:=by unfold D_zxb;exact dm N153.den
def zge (a0:Int):(Mark×Int):=
 (bif (!(zac a0))then({ Kind:=0,Colors:=[],Shape:=[],Topmark:=[]:Mark },2)else({ Kind:=a0,Colors:=(zkd a0),Shape:=((zhb a0).getD 0 default),Topmark:=(znd a0):Mark },0))
namespace N154
theorem DD:DOk Tryz.prog (Go.Ab.DD [(228,dP D_zac),(229,dP D_zkd),(230,dP D_zhb),(231,dP D_znd)]):=ya yqo.e <| ya y8n.e <| ya y3t.e <| ya y5n.e <| ye _
theorem DZ:DOk Tryz.prog (Go.Ab.DD [(228,dP D_zac),(229,dP D_zkd),(230,dP Dz_zhb),(231,dP D_znd)]):=ya yqo.e <| ya y8n.e <| ya yvz.e <| ya y5n.e <| ye _
theorem dn:type_of% (And.intro @D_zac.eq_1 <| And.intro @D_zkd.eq_1 <| And.intro @D_zhb.eq_1 <| And.intro @D_znd.eq_1 <| @Dz_zhb.eq_1):=by and_intros<;>intros<;>rfl
theorem o1 {p:Prop} (h:p:=by(first|(have h9:=hki (by assumption);omega));first|done|fail):p:=h
theorem den (a0:Int)  : Den Tryz.prog 154 [.int .i64 a0] (.tup [.agg (yzf ((zge a0).1)),.int .i64 ((zge a0).2)]):=by
 generalize hR:zge a0=r;unfold zge at hR;refine di Tryz.func154 Tryz.ntmps154 Tryz.results154 ?_;intro c hL hc hk;clear hL;simp only[pars,Nat.zero_add];have hs5:1<=(zhb a0).length:=by unfold zhb;simp only[Bool.cond_eq_ite];(repeat' split)<;>simp
 have hki:zac a0=true->0<=a0/\a0<=9:=fun h=>by unfold zac zn at h;simp at h;omega
 iterate 2 refine rS ?_
 refine AWP.cond rfl (fun hb => ?_) (fun hb => ?_)
 ·replace hR:=ct hR
  refine rS ?_;refine AWP.ret ?_;subst hR;exact es
 ·replace hR:=cf hR
  refine rZ 9 ?_;refine AWP.ret ?_;subst hR;exact es
end N154
def D_zge : DF
 | [x0]=>some (.tup [.agg (yzf ((zge (rdI x0)).1)),.int .i64 ((zge (rdI x0)).2)],false,[wI .i64 x0])
 | _=>none
theorem yx3:OkD Tryz.prog 154 D_zge:=by unfold D_zge;exact dk N154.den
end Go.Ab
