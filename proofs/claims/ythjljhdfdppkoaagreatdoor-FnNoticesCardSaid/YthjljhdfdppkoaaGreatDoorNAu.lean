/- A part of a proof: walks of functions and lemmas of our own. No conditions. -/
import Derived.Test.YthjljhdfdppkoaaGreatDoorNAl
import Derived.Test.YthjljhdfdppkoaaGreatDoorNAo
set_option linter.unusedSectionVars false
set_option linter.unusedVariables false
set_option linter.unusedSimpArgs false
set_option maxHeartbeats 1000000
namespace Go.Ab
open Go Go.Proofs
def zg (a0:Int) (a1:Int) (a2:Int):Bool:=
 (decide (a1<=a0) && decide (a0<=a2))
namespace N49
theorem DD:DOk Tryz.prog (Go.Ab.DD []):=yf _
theorem den (a0:Int) (a1:Int) (a2:Int)  : Den Tryz.prog 49 [.int .i64 a0,.int .i64 a1,.int .i64 a2] (.bool (zg a0 a1 a2)):=by
 generalize hR:zg a0 a1 a2=r;unfold zg at hR;refine di Tryz.func49 Tryz.ntmps49 Tryz.results49 ?_;intro c hL hc hk;clear hL;simp only[pars,Nat.zero_add];iterate 2 refine rS ?_
 refine AWP.ret ?_;subst hR;exact es
end N49
def D_zg : DF
 | [x0,x1,x2]=>some (.bool (zg (rdI x0) (rdI x1) (rdI x2)),false,[wI .i64 x0,wI .i64 x1,wI .i64 x2])
 | _=>none
theorem y5e:OkD Tryz.prog 49 D_zg:=by unfold D_zg;exact dk N49.den
def zng (a0:Sector):Bool:=
 ((zg a0.From 0 359) && (zg a0.To 0 359))
namespace N220
theorem DD:DOk Tryz.prog (Go.Ab.DD [(49,dP D_zg)]):=ya y5e.e <| yf _
abbrev dn:=@D_zg.eq_1
abbrev ol:=@zg.eq_1
theorem den (a0:Sector)  : Den Tryz.prog 220 [.ep (yr a0)] (.bool (zng a0)):=by
 generalize hR:zng a0=r;unfold zng at hR;refine di Tryz.func220 Tryz.ntmps220 Tryz.results220 ?_;intro c hL hc hk;obtain⟨hL0,_⟩:=hL;have hw0:bwSector a0:=y8 a0 hL0;clear hL0;simp only[pars,Nat.zero_add];iterate 2 refine rS ?_
 refine AWP.ret ?_;subst hR;exact es
end N220
def D_zng : DF
 | [x0]=>some (.bool (zng (rdP yz x0)),false,[wP yr yz x0])
 | _=>none
theorem y22:OkD Tryz.prog 220 D_zng:=by unfold D_zng;exact dk N220.den
def zcf (a0:(List UInt8)):Bool:=
 ((((a0 == [87]) || (a0 == [82])) || (a0 == [71])) || (a0 == [89]))
namespace N221
theorem DD:DOk Tryz.prog (Go.Ab.DD []):=yf _
theorem den (a0:(List UInt8))  : Den Tryz.prog 221 [.str a0] (.bool (zcf a0)):=by
 generalize hR:zcf a0=r;unfold zcf at hR;refine di Tryz.func221 Tryz.ntmps221 Tryz.results221 ?_;intro c hL hc hk;obtain⟨hL0,_⟩:=hL;have hw0:a0.length<9223372036854775808:=Nat.lt_succ_of_le hL0;clear hL0;simp only[pars,Nat.zero_add];iterate 2 refine rS ?_
 refine AWP.ret ?_;subst hR;exact es
end N221
def D_zcf : DF
 | [x0]=>some (.bool (zcf (rdS x0)),false,[wS x0])
 | _=>none
theorem ym5:OkD Tryz.prog 221 D_zcf:=by unfold D_zcf;exact dk N221.den
def zdc (a0:Sector):Bool:=
 ((zng a0) && (zcf a0.Color))
namespace N168
theorem DD:DOk Tryz.prog (Go.Ab.DD [(220,dP D_zng),(221,dP D_zcf)]):=ya y22.e <| ya ym5.e <| yf _
abbrev dn:=cj @D_zng.eq_1 <| @D_zcf.eq_1
theorem den (a0:Sector)  : Den Tryz.prog 168 [.ep (yr a0)] (.bool (zdc a0)):=by
 generalize hR:zdc a0=r;unfold zdc at hR;refine di Tryz.func168 Tryz.ntmps168 Tryz.results168 ?_;intro c hL hc hk;obtain⟨hL0,_⟩:=hL;have hw0:bwSector a0:=y8 a0 hL0;clear hL0;simp only[pars,Nat.zero_add];iterate 2 refine rS ?_
 refine AWP.ret ?_;subst hR;exact es
end N168
def D_zdc : DF
 | [x0]=>some (.bool (zdc (rdP yz x0)),false,[wP yr yz x0])
 | _=>none
theorem yh6:OkD Tryz.prog 168 D_zdc:=by unfold D_zdc;exact dk N168.den
def zfh (a0:Sector):Int:=
 (bif (((IntKind.wrap .i64 ((IntKind.wrap .i64 (a0.To-a0.From))+360)).tmod 360) == 0)then 360 else(IntKind.wrap .i64 ((IntKind.wrap .i64 (a0.To-a0.From))+360)).tmod 360)
namespace N169
theorem DD:DOk Tryz.prog (Go.Ab.DD []):=yf _
theorem den (a0:Sector)  : Den Tryz.prog 169 [.ep (yr a0)] (.int .i64 (zfh a0)):=by
 generalize hR:zfh a0=r;unfold zfh at hR;refine di Tryz.func169 Tryz.ntmps169 Tryz.results169 ?_;intro c hL hc hk;obtain⟨hL0,_⟩:=hL;have hw0:bwSector a0:=y8 a0 hL0;clear hL0;simp only[pars,Nat.zero_add];refine rS ?_;refine rD 11 ?_;refine rS ?_;refine AWP.cond rfl (fun hb => ?_) (fun hb => ?_)
 ·replace hR:=ct hR
  refine rS ?_;refine AWP.ret ?_;subst hR;exact es
 ·replace hR:=cf hR
  refine rS ?_;refine AWP.ret ?_;subst hR;exact es
end N169
def D_zfh : DF
 | [x0]=>some (.int .i64 (zfh (rdP yz x0)),false,[wP yr yz x0])
 | _=>none
theorem yi6:OkD Tryz.prog 169 D_zfh:=by unfold D_zfh;exact dk N169.den
def yru (a0:(List Sector)) (i1:Nat) (s1:Unit):Except (Bool) (Unit):=
 (bif ((!(zdc (a0.getD i1 default))) || (decide (0<(i1:Int)) && decide (((a0.getD i1 default).From)<=((a0.getD ((IntKind.wrap .i64 ((i1:Int)-1)).toNat) default).From))))then .error false else .ok ())
def ypp (a0:(List Sector)) (s1:Unit) (s2:Int):Except (Sum (Bool) (Int)) (Int):=
 (bif (decide (s2<(a0.length:Int)) && decide (1<(a0.length:Int)))then(bif decide (((IntKind.wrap .i64 ((IntKind.wrap .i64 (((a0.getD (((IntKind.wrap .i64 (s2+1)).tmod (a0.length:Int)).toNat) default).From)-((a0.getD ((s2).toNat) default).From)))+360)).tmod 360)<(zfh (a0.getD ((s2).toNat) default)))then .error (.inl false)else .ok (IntKind.wrap .i64 (s2+1)))else .error (.inr s2))
def zv (a0:(List Sector)):Bool:=
 (bif decide (12<(a0.length:Int))then false else(match yh (yru a0) (a0.length-0) 0 ()with|.error e=>e|.ok s1=>(match yeb (ypp a0 s1) ((a0.length-((0:Int)).toNat)+1) 0 with|.error (.inl e)=>e|.error (.inr s2)=>true|.ok _=>default)))
namespace N110
theorem DD:DOk Tryz.prog (Go.Ab.DD [(168,dP D_zdc),(169,dP D_zfh)]):=ya yh6.e <| ya yi6.e <| yf _
abbrev dn:=cj @D_zdc.eq_1 <| @D_zfh.eq_1
theorem o0 {p:Prop} (h:p:=by(first|(have hb2:=hb;simp only[Bool.and_eq_true,decide_eq_true_eq]at hb2;have h9:=ysbb hW2.1 hb2.1 (by omega);and_intros<;>first|omega|exact h9.1|exact h9.2));first|done|fail):p:=h
theorem den (a0:(List Sector))  : Den Tryz.prog 110 [encL 3 yr a0] (.bool (zv a0)):=by
 generalize hR:zv a0=r;unfold zv at hR;refine di Tryz.func110 Tryz.ntmps110 Tryz.results110 ?_;intro c hL hc hk;obtain⟨hL0,_⟩:=hL;have hw0:a0.length<9223372036854775808:=Nat.lt_succ_of_le (yb hL0).1;have hw1:∀ v∈a0,bwSector v:=fun v hv=>y8 v ((yb hL0).2 v hv)
 clear hL0;simp only[pars,Nat.zero_add];iterate 3 refine rS ?_
 refine AWP.cond rfl (fun hb => ?_) (fun hb => ?_)
 ·replace hR:=ct hR
  refine rS ?_;refine AWP.ret ?_;subst hR;exact es
 ·replace hR:=cf hR
  refine rS ?_;refine AWP.block ?_;generalize hz1:yh (yru a0) (a0.length-0) 0 ()=z1 at hR;refine AWP.range (yru a0) (fun i1 s1=>⟨[(0,encL 3 yr a0),(3,.int .i64 (a0.length:Int)),(4,.int .i64 (i1:Int))],[]⟩) (fun i1 s1=>True) (a0.length) 0 () [] hz1 ot wt sm ?_;clear hz1;intro i1 s1 hi1 hW1 hz1;refine rS ?_;refine AWP.cond rfl (fun hb => ?_) (fun hb => ?_)
  ·have hlt1:i1<a0.length:=ot
   rw[yl hlt1]at hz1;simp only[yru]at hz1;refine rD 23 ?_;refine AWP.cond rfl (fun hb => ?_) (fun hb => ?_)
   ·simp only[hb,cond_true]at hz1
    refine rS ?_;refine AWP.ret ?_;subst hz1;dsimp only at hR;subst hR;exact es
   ·simp only[hb,cond_false]at hz1
    refine rS ?_;exact⟨_,[],hlt1,wt,hz1,sm⟩
  ·obtain rfl:i1=a0.length:=ot
   rw[yk (Nat.le_refl _)]at hz1;subst hz1;dsimp only at hR;refine AWP.exit ?_;refine yd ?_;refine rS ?_;refine AWP.block ?_;generalize hz2:yeb (ypp a0 s1) ((a0.length-((0:Int)).toNat)+1) 0=z2 at hR;refine AWP.whileW (ypp a0 s1) (fun s2=>⟨[(0,encL 3 yr a0),(3,.int .i64 (a0.length:Int)),(5,.int .i64 s2)],[]⟩) (fun s2=>0<=s2/\s2<=a0.length) (fun s2=>a0.length-(s2).toNat) ((a0.length-((0:Int)).toNat)+1) 0 [] hz2 m0 wt sm ?_;clear hz2;intro s2 k2 hW2 hm2 hz2;simp only[ypp]at hz2;refine rS ?_;refine AWP.cond rfl (fun hb => ?_) (fun hb => ?_)
   ·simp only[hb,cond_true]at hz2
    refine rD 21 ?_;refine AWP.cond rfl (fun hb => ?_) (fun hb => ?_)
    ·simp only[hb,cond_true]at hz2
     refine rS ?_;refine AWP.ret ?_;subst hz2;dsimp only at hR;subst hR;exact es
    ·simp only[hb,cond_false]at hz2
     refine rS ?_;exact⟨_,[],ms,wt,hz2,sm⟩
   ·simp only[hb,cond_false]at hz2
    refine AWP.exit ?_;refine yd ?_;subst hz2;dsimp only at hR;refine rS ?_;refine AWP.ret ?_;subst hR;exact es
end N110
def D_zv : DF
 | [x0]=>some (.bool (zv (rdL yz x0)),false,[wL 3 yr yz x0])
 | _=>none
theorem y98:OkD Tryz.prog 110 D_zv:=by unfold D_zv;exact dk N110.den
def zec (a0:Int):Bool:=
 (zg a0 1 9)
namespace N153
theorem DD:DOk Tryz.prog (Go.Ab.DD [(49,dP D_zg)]):=ya y5e.e <| yf _
abbrev dn:=@D_zg.eq_1
abbrev ol:=@zg.eq_1
theorem den (a0:Int)  : Den Tryz.prog 153 [.int .i64 a0] (.bool (zec a0)):=by
 generalize hR:zec a0=r;unfold zec at hR;refine di Tryz.func153 Tryz.ntmps153 Tryz.results153 ?_;intro c hL hc hk;clear hL;simp only[pars,Nat.zero_add];iterate 2 refine rS ?_
 refine AWP.ret ?_;subst hR;exact es
end N153
def D_zec : DF
 | [x0]=>some (.bool (zec (rdI x0)),false,[wI .i64 x0])
 | _=>none
theorem yvp:OkD Tryz.prog 153 D_zec:=by unfold D_zec;exact dk N153.den
def zvd (a0:Int):(List UInt8):=
 (([[],[82],[71],[66,89],[66,89,66],[89,66],[89,66,89],[66,82,66],[82,87],[89]]:List (List UInt8)).getD ((a0).toNat) default)
namespace N154
theorem DD:DOk Tryz.prog (Go.Ab.DD []):=yf _
theorem lx {p:Prop} (h:p:=by(exact lxx);first|done|fail):p:=h
theorem den (a0:Int) (hp0:0<=a0) (hp1:a0<=9):Den Tryz.prog 154 [.int .i64 a0] (.str (zvd a0)):=by
 generalize hR:zvd a0=r;unfold zvd at hR;refine di Tryz.func154 Tryz.ntmps154 Tryz.results154 ?_;intro c hL hc hk;clear hL;simp only[pars,Nat.zero_add];iterate 2 refine rS ?_
 refine AWP.ret ?_;subst hR;exact es
end N154
def D_zvd : DF
 | [x0]=>some (.str (zvd (rdI x0)),false,[wI .i64 x0,0<=(rdI x0),(rdI x0)<=9])
 | _=>none
theorem y2o:OkD Tryz.prog 154 D_zvd:=by unfold D_zvd;exact dk N154.den
def zcb (a0:Int):(List (List UInt8)):=
 (bif (a0 == 1)then[[99,97,110],[112,105,108,108,97,114],[115,112,97,114]]else(bif (a0 == 2)then[[99,111,110,101],[112,105,108,108,97,114],[115,112,97,114]]else(bif (a0 == 8)then[[115,112,104,101,114,101],[112,105,108,108,97,114],[115,112,97,114]]else(bif (a0 == 9)then[[99,97,110],[99,111,110,101],[112,105,108,108,97,114],[115,112,97,114],[115,112,104,101,114,101]]else[[112,105,108,108,97,114],[115,112,97,114]]))))
namespace N155
theorem DD:DOk Tryz.prog (Go.Ab.DD []):=yf _
theorem lx {p:Prop} (h:p:=by(exact lxx);first|done|fail):p:=h
theorem den (a0:Int)  : Den Tryz.prog 155 [.int .i64 a0] (ownL 9 1 eS (zcb a0)):=by
 generalize hR:zcb a0=r;unfold zcb at hR;refine di Tryz.func155 Tryz.ntmps155 Tryz.results155 ?_;intro c hL hc hk;clear hL;simp only[pars,Nat.zero_add];iterate 3 refine rS ?_
 refine AWP.cond rfl (fun hb => ?_) (fun hb => ?_)
 ·replace hR:=ct hR
  refine rS ?_;refine AWP.ret ?_;subst hR;exact es
 ·replace hR:=cf hR
  refine rS ?_;refine AWP.cond rfl (fun hb => ?_) (fun hb => ?_)
  ·replace hR:=ct hR
   refine rS ?_;refine AWP.ret ?_;subst hR;exact es
  ·replace hR:=cf hR
   refine rS ?_;refine AWP.cond rfl (fun hb => ?_) (fun hb => ?_)
   ·replace hR:=ct hR
    refine rS ?_;refine AWP.ret ?_;subst hR;exact es
   ·replace hR:=cf hR
    refine rS ?_;refine AWP.cond rfl (fun hb => ?_) (fun hb => ?_)
    ·replace hR:=ct hR
     refine rS ?_;refine AWP.ret ?_;subst hR;exact es
    ·replace hR:=cf hR
     refine rS ?_;refine AWP.ret ?_;subst hR;exact es
end N155
def D_zcb : DF
 | [x0]=>some (ownL 9 1 eS (zcb (rdI x0)),false,[wI .i64 x0])
 | _=>none
def Dz_zcb : DF
 | [x0]=>some (ownL 9 1 eS (zcb (rdI x0)),true,[wI .i64 x0])
 | _=>none
theorem yzx:OkD Tryz.prog 155 D_zcb:=by unfold D_zcb;exact dk N155.den
theorem yb1:OkD Tryz.prog 155 Dz_zcb:=by unfold Dz_zcb;exact dk N155.den
def zde (a0:Int):(List UInt8):=
 (([[],[99,97,110],[99,111,110,101],[117,112],[98,97,115,101],[100,111,119,110],[112,111,105,110,116],[98,97,108,108,115],[98,97,108,108],[99,114,111,115,115]]:List (List UInt8)).getD ((a0).toNat) default)
namespace N156
theorem DD:DOk Tryz.prog (Go.Ab.DD []):=yf _
theorem lx {p:Prop} (h:p:=by(exact lxx);first|done|fail):p:=h
theorem den (a0:Int) (hp0:0<=a0) (hp1:a0<=9):Den Tryz.prog 156 [.int .i64 a0] (.str (zde a0)):=by
 generalize hR:zde a0=r;unfold zde at hR;refine di Tryz.func156 Tryz.ntmps156 Tryz.results156 ?_;intro c hL hc hk;clear hL;simp only[pars,Nat.zero_add];iterate 2 refine rS ?_
 refine AWP.ret ?_;subst hR;exact es
end N156
def D_zde : DF
 | [x0]=>some (.str (zde (rdI x0)),false,[wI .i64 x0,0<=(rdI x0),(rdI x0)<=9])
 | _=>none
theorem yjp:OkD Tryz.prog 156 D_zde:=by unfold D_zde;exact dk N156.den
def ydl (a0:Mark) (i1:Nat) (s1:Unit):Except (Bool) (Unit):=
 (bif (((zcb a0.Kind).getD i1 default) == a0.Shape)then .error true else .ok ())
def zid (a0:Mark):Bool:=
 (bif (a0.Kind == 0)then(a0.Kind == 0 && (a0.Colors == [] && (a0.Shape == [] && a0.Topmark == [])))else(bif (((!(zec a0.Kind)) || (a0.Colors != (zvd a0.Kind))) || ((a0.Topmark != []) && (a0.Topmark != (zde a0.Kind))))then false else(match yh (ydl a0) (((zcb a0.Kind).length)-0) 0 ()with|.error e=>e|.ok s1=>false)))
namespace N166
theorem DD:DOk Tryz.prog (Go.Ab.DD [(153,dP D_zec),(154,dP D_zvd),(155,dP D_zcb),(156,dP D_zde)]):=ya yvp.e <| ya y2o.e <| ya yzx.e <| ya yjp.e <| yf _
abbrev dn:=cj @D_zec.eq_1 <| cj @D_zvd.eq_1 <| cj @D_zcb.eq_1 <| @D_zde.eq_1
theorem o0 {p:Prop} (h:p:=by(first|(simp only[zec,zg];refine⟨fun h => ?_,fun h _ => ?_⟩<;>(simp at h;omega)));first|done|fail):p:=h
theorem den (a0:Mark)  : Den Tryz.prog 166 [.ep (ygh a0)] (.bool (zid a0)):=by
 generalize hR:zid a0=r;unfold zid at hR;refine di Tryz.func166 Tryz.ntmps166 Tryz.results166 ?_;intro c hL hc hk;obtain⟨hL0,_⟩:=hL;have hw0:bwMark a0:=yti a0 hL0;clear hL0;simp only[pars,Nat.zero_add];have hs5:(zcb a0.Kind).length<=5:=by unfold zcb;simp only[Bool.cond_eq_ite];(repeat' split)<;>simp
 iterate 2 refine rS ?_
 refine AWP.cond rfl (fun hb => ?_) (fun hb => ?_)
 ·replace hR:=ct hR
  refine rS ?_;refine AWP.ret ?_;subst hR;exact es
 ·replace hR:=cf hR
  refine rD 37 ?_;refine AWP.cond rfl (fun hb => ?_) (fun hb => ?_)
  ·replace hR:=ct hR
   refine rS ?_;refine AWP.ret ?_;subst hR;exact es
  ·replace hR:=cf hR
   iterate 2 refine rS ?_
   refine AWP.block ?_;generalize hz1:yh (ydl a0) (((zcb a0.Kind).length)-0) 0 ()=z1 at hR;refine AWP.range (ydl a0) (fun i1 s1=>⟨[(0,.ep (ygh a0)),(3,.ref 0 1 0 ((zcb a0.Kind).length)),(4,.int .i64 (i1:Int))],[.arr 9 1 (zcb a0.Kind).length (fun j=>eS ((zcb a0.Kind).getD j default))]⟩) (fun i1 s1=>True) (((zcb a0.Kind).length)) 0 () [0] hz1 ot wt sm ?_;clear hz1;intro i1 s1 hi1 hW1 hz1;refine rS ?_;refine AWP.cond rfl (fun hb => ?_) (fun hb => ?_)
   ·have hlt1:i1<((zcb a0.Kind).length):=ot
    rw[yl hlt1]at hz1;simp only[ydl]at hz1;refine rD 8 ?_;refine AWP.cond rfl (fun hb => ?_) (fun hb => ?_)
    ·simp only[hb,cond_true]at hz1
     refine rS ?_;refine AWP.ret ?_;subst hz1;dsimp only at hR;subst hR;exact es
    ·simp only[hb,cond_false]at hz1
     refine rS ?_;exact⟨_,[0],hlt1,wt,hz1,sm⟩
   ·obtain rfl:i1=((zcb a0.Kind).length):=ot
    rw[yk (Nat.le_refl _)]at hz1;subst hz1;dsimp only at hR;refine AWP.exit ?_;refine yd ?_;refine rS ?_;refine AWP.ret ?_;subst hR;exact es
end N166
def D_zid : DF
 | [x0]=>some (.bool (zid (rdP yhm x0)),false,[wP ygh yhm x0])
 | _=>none
theorem y33:OkD Tryz.prog 166 D_zid:=by unfold D_zid;exact dk N166.den
def zjd (a0:Mark):Bool:=
 (zid a0)
namespace N107
theorem DD:DOk Tryz.prog (Go.Ab.DD [(166,dP D_zid)]):=ya y33.e <| yf _
abbrev dn:=@D_zid.eq_1
theorem den (a0:Mark)  : Den Tryz.prog 107 [.agg (ygh a0)] (.bool (zjd a0)):=by
 generalize hR:zjd a0=r;unfold zjd at hR;refine di Tryz.func107 Tryz.ntmps107 Tryz.results107 ?_;intro c hL hc hk;obtain⟨hL0,_⟩:=hL;have hw0:bwMark a0:=yti a0 hL0;clear hL0;simp only[pars,Nat.zero_add];iterate 2 refine rS ?_
 refine AWP.ret ?_;subst hR;exact es
end N107
def D_zjd : DF
 | [x0]=>some (.bool (zjd (rdG yhm x0)),false,[wG ygh yhm x0])
 | _=>none
theorem y65:OkD Tryz.prog 107 D_zjd:=by unfold D_zjd;exact dk N107.den
def zsf (a0:Int):Bool:=
 (decide (97<=a0) && decide (a0<=122))
namespace N164
theorem DD:DOk Tryz.prog (Go.Ab.DD []):=yf _
theorem den (a0:Int)  : Den Tryz.prog 164 [.int .u8 a0] (.bool (zsf a0)):=by
 generalize hR:zsf a0=r;unfold zsf at hR;refine di Tryz.func164 Tryz.ntmps164 Tryz.results164 ?_;intro c hL hc hk;clear hL;simp only[pars,Nat.zero_add];iterate 2 refine rS ?_
 refine AWP.ret ?_;subst hR;exact es
end N164
def D_zsf : DF
 | [x0]=>some (.bool (zsf (rdI x0)),false,[wI .u8 x0])
 | _=>none
theorem yw2:OkD Tryz.prog 164 D_zsf:=by unfold D_zsf;exact dk N164.den
def zgh (a0:Int):Bool:=
 (decide (48<=a0) && decide (a0<=57))
namespace N165
theorem DD:DOk Tryz.prog (Go.Ab.DD []):=yf _
theorem den (a0:Int)  : Den Tryz.prog 165 [.int .u8 a0] (.bool (zgh a0)):=by
 generalize hR:zgh a0=r;unfold zgh at hR;refine di Tryz.func165 Tryz.ntmps165 Tryz.results165 ?_;intro c hL hc hk;clear hL;simp only[pars,Nat.zero_add];iterate 2 refine rS ?_
 refine AWP.ret ?_;subst hR;exact es
end N165
def D_zgh : DF
 | [x0]=>some (.bool (zgh (rdI x0)),false,[wI .u8 x0])
 | _=>none
theorem yj4:OkD Tryz.prog 165 D_zgh:=by unfold D_zgh;exact dk N165.den
def y2x (a0:(List UInt8)) (i1:Nat) (s1:Unit):Except (Bool) (Unit):=
 (bif ((!(zsf ((a0.getD i1 0).toNat:Int))) && (!(zgh ((a0.getD i1 0).toNat:Int))))then .error false else .ok ())
def zjc (a0:(List UInt8)):Bool:=
 (bif (((a0 == []) || decide (10<(a0.length:Int))) || (!(zsf ((a0.getD 0 0).toNat:Int))))then false else(match yh (y2x a0) (a0.length-0) 0 ()with|.error e=>e|.ok s1=>true))
namespace N105
theorem DD:DOk Tryz.prog (Go.Ab.DD [(164,dP D_zsf),(165,dP D_zgh)]):=ya yw2.e <| ya yj4.e <| yf _
abbrev dn:=cj @D_zsf.eq_1 <| @D_zgh.eq_1
theorem den (a0:(List UInt8))  : Den Tryz.prog 105 [.str a0] (.bool (zjc a0)):=by
 generalize hR:zjc a0=r;unfold zjc at hR;refine di Tryz.func105 Tryz.ntmps105 Tryz.results105 ?_;intro c hL hc hk;obtain⟨hL0,_⟩:=hL;have hw0:a0.length<9223372036854775808:=Nat.lt_succ_of_le hL0;clear hL0;simp only[pars,Nat.zero_add];iterate 2 refine rS ?_
 refine AWP.cond rfl (fun hb => ?_) (fun hb => ?_)
 ·replace hR:=ct hR
  refine rS ?_;refine AWP.ret ?_;subst hR;exact es
 ·replace hR:=cf hR
  refine rS ?_;refine AWP.block ?_;generalize hz1:yh (y2x a0) (a0.length-0) 0 ()=z1 at hR;refine AWP.range (y2x a0) (fun i1 s1=>⟨[(0,.str a0),(3,.int .i64 (i1:Int))],[]⟩) (fun i1 s1=>True) (a0.length) 0 () [] hz1 ot wt sm ?_;clear hz1;intro i1 s1 hi1 hW1 hz1;refine rS ?_;refine AWP.cond rfl (fun hb => ?_) (fun hb => ?_)
  ·have hlt1:i1<a0.length:=ot
   rw[yl hlt1]at hz1;simp only[y2x]at hz1;refine rS ?_;refine AWP.cond rfl (fun hb => ?_) (fun hb => ?_)
   ·simp only[hb,cond_true]at hz1
    refine rS ?_;refine AWP.ret ?_;subst hz1;dsimp only at hR;subst hR;exact es
   ·simp only[hb,cond_false]at hz1
    refine rS ?_;exact⟨_,[],hlt1,wt,hz1,sm⟩
  ·obtain rfl:i1=a0.length:=ot
   rw[yk (Nat.le_refl _)]at hz1;subst hz1;dsimp only at hR;refine AWP.exit ?_;refine yd ?_;refine rS ?_;refine AWP.ret ?_;subst hR;exact es
end N105
def D_zjc : DF
 | [x0]=>some (.bool (zjc (rdS x0)),false,[wS x0])
 | _=>none
theorem y05:OkD Tryz.prog 105 D_zjc:=by unfold D_zjc;exact dk N105.den
def yxr (a0:(List Int)) (i1:Nat) (s1:Int):Except (Int) (Int):=
 .ok (IntKind.wrap .i64 (s1+(a0.getD i1 default)))
def zlf (a0:(List Int)):Int:=
 (bif ((a0.length:Int) == 0)then 1 else(match yh (yxr a0) (a0.length-0) 0 0 with|.error e=>e|.ok s1=>s1))
namespace N213
theorem DD:DOk Tryz.prog (Go.Ab.DD []):=yf _
theorem den (a0:(List Int))  : Den Tryz.prog 213 [encL 1 yx a0] (.int .i64 (zlf a0)):=by
 generalize hR:zlf a0=r;unfold zlf at hR;refine di Tryz.func213 Tryz.ntmps213 Tryz.results213 ?_;intro c hL hc hk;obtain⟨hL0,_⟩:=hL;have hw0:a0.length<9223372036854775808:=Nat.lt_succ_of_le (yb hL0).1;clear hL0;simp only[pars,Nat.zero_add];iterate 2 refine rS ?_
 refine AWP.cond rfl (fun hb => ?_) (fun hb => ?_)
 ·replace hR:=ct hR
  refine rS ?_;refine AWP.ret ?_;subst hR;exact es
 ·replace hR:=cf hR
  iterate 2 refine rS ?_
  refine AWP.block ?_;generalize hz1:yh (yxr a0) (a0.length-0) 0 0=z1 at hR;refine AWP.range (yxr a0) (fun i1 s1=>⟨[(0,encL 1 yx a0),(3,.int .i64 s1),(4,.int .i64 (i1:Int))],[]⟩) (fun i1 s1=>True) (a0.length) 0 0 [] hz1 ot wt sm ?_;clear hz1;intro i1 s1 hi1 hW1 hz1;refine rS ?_;refine AWP.cond rfl (fun hb => ?_) (fun hb => ?_)
  ·have hlt1:i1<a0.length:=ot
   rw[yl hlt1]at hz1;simp only[yxr]at hz1;iterate 2 refine rS ?_
   exact⟨_,[],hlt1,wt,hz1,sm⟩
  ·obtain rfl:i1=a0.length:=ot
   rw[yk (Nat.le_refl _)]at hz1;subst hz1;dsimp only at hR;refine AWP.exit ?_;refine yd ?_;refine rS ?_;refine AWP.ret ?_;subst hR;exact es
end N213
def D_zlf : DF
 | [x0]=>some (.int .i64 (zlf (rdL ynb x0)),false,[wL 1 yx ynb x0])
 | _=>none
theorem yq4:OkD Tryz.prog 213 D_zlf:=by unfold D_zlf;exact dk N213.den
def yks (a0:(List Int)) (i1:Nat) (s1:Unit):Except (Bool) (Unit):=
 (bif (!(zg (a0.getD i1 default) 1 9))then .error false else .ok ())
def zkc (a0:(List Int)):Bool:=
 (match yh (yks a0) (a0.length-0) 0 ()with|.error e=>e|.ok s1=>((decide ((a0.length:Int)<=4) && (!(((a0.length:Int) == 1) && ((a0.getD 0 default) == 1)))) && decide ((zlf a0)<=12)))
namespace N158
theorem DD:DOk Tryz.prog (Go.Ab.DD [(213,dP D_zlf),(49,dP D_zg)]):=ya yq4.e <| ya y5e.e <| yf _
abbrev dn:=cj @D_zlf.eq_1 <| @D_zg.eq_1
abbrev ol:=@zg.eq_1
theorem den (a0:(List Int))  : Den Tryz.prog 158 [encL 1 yx a0] (.bool (zkc a0)):=by
 generalize hR:zkc a0=r;unfold zkc at hR;refine di Tryz.func158 Tryz.ntmps158 Tryz.results158 ?_;intro c hL hc hk;obtain⟨hL0,_⟩:=hL;have hw0:a0.length<9223372036854775808:=Nat.lt_succ_of_le (yb hL0).1;clear hL0;simp only[pars,Nat.zero_add];iterate 2 refine rS ?_
 refine AWP.block ?_;generalize hz1:yh (yks a0) (a0.length-0) 0 ()=z1 at hR;refine AWP.range (yks a0) (fun i1 s1=>⟨[(0,encL 1 yx a0),(3,.int .i64 (i1:Int))],[]⟩) (fun i1 s1=>True) (a0.length) 0 () [] hz1 ot wt sm ?_;clear hz1;intro i1 s1 hi1 hW1 hz1;refine rS ?_;refine AWP.cond rfl (fun hb => ?_) (fun hb => ?_)
 ·have hlt1:i1<a0.length:=ot
  rw[yl hlt1]at hz1;simp only[yks]at hz1;refine rS ?_;refine AWP.cond rfl (fun hb => ?_) (fun hb => ?_)
  ·simp only[hb,cond_true]at hz1
   refine rS ?_;refine AWP.ret ?_;subst hz1;dsimp only at hR;subst hR;exact es
  ·simp only[hb,cond_false]at hz1
   refine rS ?_;exact⟨_,[],hlt1,wt,hz1,sm⟩
 ·obtain rfl:i1=a0.length:=ot
  rw[yk (Nat.le_refl _)]at hz1;subst hz1;dsimp only at hR;refine AWP.exit ?_;refine yd ?_;refine rS ?_;refine AWP.ret ?_;subst hR;exact es
end N158
def D_zkc : DF
 | [x0]=>some (.bool (zkc (rdL ynb x0)),false,[wL 1 yx ynb x0])
 | _=>none
theorem yew:OkD Tryz.prog 158 D_zkc:=by unfold D_zkc;exact dk N158.den
def ztf (a0:Int):Int:=
 (bif (a0 == 87)then 1 else(bif (a0 == 82)then 2 else(bif (a0 == 71)then 3 else(bif (a0 == 89)then 4 else 0))))
namespace N259
theorem DD:DOk Tryz.prog (Go.Ab.DD []):=yf _
theorem den (a0:Int)  : Den Tryz.prog 259 [.int .u8 a0] (.int .i64 (ztf a0)):=by
 generalize hR:ztf a0=r;unfold ztf at hR;refine di Tryz.func259 Tryz.ntmps259 Tryz.results259 ?_;intro c hL hc hk;clear hL;simp only[pars,Nat.zero_add];iterate 3 refine rS ?_
 refine AWP.cond rfl (fun hb => ?_) (fun hb => ?_)
 ·replace hR:=ct hR
  refine rS ?_;refine AWP.ret ?_;subst hR;exact es
 ·replace hR:=cf hR
  refine rS ?_;refine AWP.cond rfl (fun hb => ?_) (fun hb => ?_)
  ·replace hR:=ct hR
   refine rS ?_;refine AWP.ret ?_;subst hR;exact es
  ·replace hR:=cf hR
   refine rS ?_;refine AWP.cond rfl (fun hb => ?_) (fun hb => ?_)
   ·replace hR:=ct hR
    refine rS ?_;refine AWP.ret ?_;subst hR;exact es
   ·replace hR:=cf hR
    refine rS ?_;refine AWP.cond rfl (fun hb => ?_) (fun hb => ?_)
    ·replace hR:=ct hR
     refine rS ?_;refine AWP.ret ?_;subst hR;exact es
    ·replace hR:=cf hR
     refine rS ?_;refine AWP.ret ?_;subst hR;exact es
end N259
def D_ztf : DF
 | [x0]=>some (.int .i64 (ztf (rdI x0)),false,[wI .u8 x0])
 | _=>none
theorem yx7:OkD Tryz.prog 259 D_ztf:=by unfold D_ztf;exact dk N259.den
def yhf (a0:(List UInt8)) (i1:Nat) (s1:Unit):Except (Bool) (Unit):=
 (bif (((ztf ((a0.getD i1 0).toNat:Int)) == 0) || (decide (0<(i1:Int)) && decide ((ztf ((a0.getD i1 0).toNat:Int))<=(ztf ((a0.getD ((IntKind.wrap .i64 ((i1:Int)-1)).toNat) 0).toNat:Int)))))then .error false else .ok ())
def zjb (a0:(List UInt8)):Bool:=
 (match yh (yhf a0) (a0.length-0) 0 ()with|.error e=>e|.ok s1=>(decide (1<=(a0.length:Int)) && decide ((a0.length:Int)<=3)))
namespace N219
theorem DD:DOk Tryz.prog (Go.Ab.DD [(259,dP D_ztf)]):=ya yx7.e <| yf _
abbrev dn:=@D_ztf.eq_1
theorem den (a0:(List UInt8))  : Den Tryz.prog 219 [.str a0] (.bool (zjb a0)):=by
 generalize hR:zjb a0=r;unfold zjb at hR;refine di Tryz.func219 Tryz.ntmps219 Tryz.results219 ?_;intro c hL hc hk;obtain⟨hL0,_⟩:=hL;have hw0:a0.length<9223372036854775808:=Nat.lt_succ_of_le hL0;clear hL0;simp only[pars,Nat.zero_add];iterate 2 refine rS ?_
 refine AWP.block ?_;generalize hz1:yh (yhf a0) (a0.length-0) 0 ()=z1 at hR;refine AWP.range (yhf a0) (fun i1 s1=>⟨[(0,.str a0),(3,.int .i64 (i1:Int))],[]⟩) (fun i1 s1=>True) (a0.length) 0 () [] hz1 ot wt sm ?_;clear hz1;intro i1 s1 hi1 hW1 hz1;refine rS ?_;refine AWP.cond rfl (fun hb => ?_) (fun hb => ?_)
 ·have hlt1:i1<a0.length:=ot
  rw[yl hlt1]at hz1;simp only[yhf]at hz1;refine rD 21 ?_;refine AWP.cond rfl (fun hb => ?_) (fun hb => ?_)
  ·simp only[hb,cond_true]at hz1
   refine rS ?_;refine AWP.ret ?_;subst hz1;dsimp only at hR;subst hR;exact es
  ·simp only[hb,cond_false]at hz1
   refine rS ?_;exact⟨_,[],hlt1,wt,hz1,sm⟩
 ·obtain rfl:i1=a0.length:=ot
  rw[yk (Nat.le_refl _)]at hz1;subst hz1;dsimp only at hR;refine AWP.exit ?_;refine yd ?_;refine rS ?_;refine AWP.ret ?_;subst hR;exact es
end N219
def D_zjb : DF
 | [x0]=>some (.bool (zjb (rdS x0)),false,[wS x0])
 | _=>none
theorem yz7:OkD Tryz.prog 219 D_zjb:=by unfold D_zjb;exact dk N219.den
def zxg (a0:Int):Bool:=
 (zg a0 1 8)
namespace N218
theorem DD:DOk Tryz.prog (Go.Ab.DD [(49,dP D_zg)]):=ya y5e.e <| yf _
abbrev dn:=@D_zg.eq_1
abbrev ol:=@zg.eq_1
theorem den (a0:Int)  : Den Tryz.prog 218 [.int .i64 a0] (.bool (zxg a0)):=by
 generalize hR:zxg a0=r;unfold zxg at hR;refine di Tryz.func218 Tryz.ntmps218 Tryz.results218 ?_;intro c hL hc hk;clear hL;simp only[pars,Nat.zero_add];iterate 2 refine rS ?_
 refine AWP.ret ?_;subst hR;exact es
end N218
def D_zxg : DF
 | [x0]=>some (.bool (zxg (rdI x0)),false,[wI .i64 x0])
 | _=>none
theorem y95:OkD Tryz.prog 218 D_zxg:=by unfold D_zxg;exact dk N218.den
def zee (a0:Character):Bool:=
 (bif ((!(zxg a0.Kind)) || (!(zjb a0.Colors)))then false else(bif (a0.Kind == 1)then(((a0.Group.length:Int) == 0) && (a0.Letter == []))else(bif (a0.Kind == 3)then(((a0.Group.length:Int) == 0) && (a0.Letter == []))else(bif (a0.Kind == 6)then(bif (a0.Letter == [76])then(((a0.Group.length:Int) == 1) && ((a0.Group.getD 0 default) == 6))else(((a0.Letter == []) && decide ((a0.Group.length:Int)<=1)) && (zkc a0.Group)))else(bif (a0.Kind == 7)then(bif (a0.Letter == [76])then(((a0.Group.length:Int) == 1) && ((a0.Group.getD 0 default) == 6))else(((a0.Letter == []) && decide ((a0.Group.length:Int)<=1)) && (zkc a0.Group)))else(bif (a0.Kind == 8)then(((((a0.Group.length:Int) == 0) && ((a0.Letter.length:Int) == 1)) && decide (65<=((a0.Letter.getD 0 0).toNat:Int))) && decide (((a0.Letter.getD 0 0).toNat:Int)<=90))else((a0.Letter == []) && (zkc a0.Group))))))))
namespace N167
theorem DD:DOk Tryz.prog (Go.Ab.DD [(158,dP D_zkc),(218,dP D_zxg),(219,dP D_zjb)]):=ya yew.e <| ya y95.e <| ya yz7.e <| yf _
abbrev dn:=cj @D_zkc.eq_1 <| cj @D_zxg.eq_1 <| @D_zjb.eq_1
theorem den (a0:Character)  : Den Tryz.prog 167 [.ep (yj a0)] (.bool (zee a0)):=by
 generalize hR:zee a0=r;unfold zee at hR;refine di Tryz.func167 Tryz.ntmps167 Tryz.results167 ?_;intro c hL hc hk;obtain⟨hL0,_⟩:=hL;have hw0:bwCharacter a0:=yv a0 hL0;clear hL0;simp only[pars,Nat.zero_add];iterate 2 refine rS ?_
 refine AWP.cond rfl (fun hb => ?_) (fun hb => ?_)
 ·replace hR:=ct hR
  refine rS ?_;refine AWP.ret ?_;subst hR;exact es
 ·replace hR:=cf hR
  iterate 2 refine rS ?_
  refine AWP.cond rfl (fun hb => ?_) (fun hb => ?_)
  ·replace hR:=ct hR
   refine AWP.skip ?_;refine AWP.cond rfl (fun hb => ?_) (fun hb => ?_)
   ·refine rS ?_
    refine AWP.ret ?_;subst hR;exact es
   ·exfalso;simp_all
  ·replace hR:=cf hR
   refine rS ?_;refine AWP.cond rfl (fun hb => ?_) (fun hb => ?_)
   ·replace hR:=ct hR
    refine rS ?_;refine AWP.ret ?_;subst hR;exact es
   ·replace hR:=cf hR
    refine rS ?_;refine AWP.cond rfl (fun hb => ?_) (fun hb => ?_)
    ·replace hR:=ct hR
     refine AWP.skip ?_;refine AWP.cond rfl (fun hb => ?_) (fun hb => ?_)
     ·refine rS ?_
      refine AWP.cond rfl (fun hb => ?_) (fun hb => ?_)
      ·replace hR:=ct hR
       refine rS ?_;refine AWP.ret ?_;subst hR;exact es
      ·replace hR:=cf hR
       refine rS ?_;refine AWP.ret ?_;subst hR;exact es
     ·exfalso;simp_all
    ·replace hR:=cf hR
     refine rS ?_;refine AWP.cond rfl (fun hb => ?_) (fun hb => ?_)
     ·replace hR:=ct hR
      refine rS ?_;refine AWP.cond rfl (fun hb => ?_) (fun hb => ?_)
      ·replace hR:=ct hR
       refine rS ?_;refine AWP.ret ?_;subst hR;exact es
      ·replace hR:=cf hR
       refine rS ?_;refine AWP.ret ?_;subst hR;exact es
     ·replace hR:=cf hR
      refine rS ?_;refine AWP.cond rfl (fun hb => ?_) (fun hb => ?_)
      ·replace hR:=ct hR
       refine rS ?_;refine AWP.ret ?_;subst hR;exact es
      ·replace hR:=cf hR
       refine rS ?_;refine AWP.ret ?_;subst hR;exact es
end N167
def D_zee : DF
 | [x0]=>some (.bool (zee (rdP yg x0)),false,[wP yj yg x0])
 | _=>none
theorem ya7:OkD Tryz.prog 167 D_zee:=by unfold D_zee;exact dk N167.den
def ybn (a0:Int) (i1:Nat) (s1:List Int):Except ((List Int)) (List Int):=
 (bif ((((([[46,45],[45,46,46,46],[45,46,45,46],[45,46,46],[46],[46,46,45,46],[45,45,46],[46,46,46,46],[46,46],[46,45,45,45],[45,46,45],[46,45,46,46],[45,45],[45,46],[45,45,45],[46,45,45,46],[45,45,46,45],[46,45,46],[46,46,46],[45],[46,46,45],[46,46,46,45],[46,45,45],[45,46,46,45],[45,46,45,45],[45,45,46,46]]:List (List UInt8)).getD ((IntKind.wrap .u8 (a0-65)).toNat) default).getD i1 0).toNat:Int) == 46)then .ok (s1++([5]:List Int))else .ok (s1++([15]:List Int)))
def zyb (a0:Int):(List Int):=
 (match yh (ybn a0) (((([[46,45],[45,46,46,46],[45,46,45,46],[45,46,46],[46],[46,46,45,46],[45,45,46],[46,46,46,46],[46,46],[46,45,45,45],[45,46,45],[46,45,46,46],[45,45],[45,46],[45,45,45],[46,45,45,46],[45,45,46,45],[46,45,46],[46,46,46],[45],[46,46,45],[46,46,46,45],[46,45,45],[45,46,46,45],[45,46,45,45],[45,45,46,46]]:List (List UInt8)).getD ((IntKind.wrap .u8 (a0-65)).toNat) default).length)-0) 0 ([]:List Int)with|.error e=>e|.ok s1=>s1)
namespace N256
theorem DD:DOk Tryz.prog (Go.Ab.DD []):=yf _
theorem lx {p:Prop} (h:p:=by(exact lxx);first|done|fail):p:=h
theorem den (a0:Int) (hp0:65<=a0) (hp1:a0<=90):Den Tryz.prog 256 [.int .u8 a0] (ownL 2 1 yx (zyb a0)):=by
 generalize hR:zyb a0=r;unfold zyb at hR;refine di Tryz.func256 Tryz.ntmps256 Tryz.results256 ?_;intro c hL hc hk;clear hL;simp only[pars,Nat.zero_add];have hs9:=yo4 (IntKind.wrap .u8 (a0-65)).toNat;have hw9:IntKind.wrap .u8 (a0-65)=a0-65:=ytl _ (by omega) (by omega);iterate 5 refine rS ?_
 refine AWP.block ?_;generalize hz1:yh (ybn a0) (((([[46,45],[45,46,46,46],[45,46,45,46],[45,46,46],[46],[46,46,45,46],[45,45,46],[46,46,46,46],[46,46],[46,45,45,45],[45,46,45],[46,45,46,46],[45,45],[45,46],[45,45,45],[46,45,45,46],[45,45,46,45],[46,45,46],[46,46,46],[45],[46,46,45],[46,46,46,45],[46,45,45],[45,46,46,45],[45,46,45,45],[45,45,46,46]]:List (List UInt8)).getD ((IntKind.wrap .u8 (a0-65)).toNat) default).length)-0) 0 ([]:List Int)=z1 at hR;refine AWP.range (ybn a0) (fun i1 s1=>⟨[(4,.str (([[46,45],[45,46,46,46],[45,46,45,46],[45,46,46],[46],[46,46,45,46],[45,45,46],[46,46,46,46],[46,46],[46,45,45,45],[45,46,45],[46,45,46,46],[45,45],[45,46],[45,45,45],[46,45,45,46],[45,45,46,45],[46,45,46],[46,46,46],[45],[46,46,45],[46,46,46,45],[46,45,45],[45,46,46,45],[45,46,45,45],[45,45,46,46]]:List (List UInt8)).getD ((IntKind.wrap .u8 (a0-65)).toNat) default)),(5,.ref 0 1 0 s1.length),(6,.int .i64 (i1:Int))],[.arr 2 1 s1.length (fun j=>yx (s1.getD j default))]⟩) (fun i1 s1=>s1.length<=([]:List Int).length+1 * i1/\s1.length<=i1) (((([[46,45],[45,46,46,46],[45,46,45,46],[45,46,46],[46],[46,46,45,46],[45,45,46],[46,46,46,46],[46,46],[46,45,45,45],[45,46,45],[46,45,46,46],[45,45],[45,46],[45,45,45],[46,45,45,46],[45,45,46,45],[46,45,46],[46,46,46],[45],[46,46,45],[46,46,46,45],[46,45,45],[45,46,46,45],[45,46,45,45],[45,45,46,46]]:List (List UInt8)).getD ((IntKind.wrap .u8 (a0-65)).toNat) default).length)) 0 ([]:List Int) [1] hz1 ot wt sm ?_;clear hz1;intro i1 s1 hi1 hW1 hz1;refine rS ?_;refine AWP.cond rfl (fun hb => ?_) (fun hb => ?_)
 ·have hlt1:i1<((([[46,45],[45,46,46,46],[45,46,45,46],[45,46,46],[46],[46,46,45,46],[45,45,46],[46,46,46,46],[46,46],[46,45,45,45],[45,46,45],[46,45,46,46],[45,45],[45,46],[45,45,45],[46,45,45,46],[45,45,46,45],[46,45,46],[46,46,46],[45],[46,46,45],[46,46,46,45],[46,45,45],[45,46,46,45],[45,46,45,45],[45,45,46,46]]:List (List UInt8)).getD ((IntKind.wrap .u8 (a0-65)).toNat) default).length):=ot
  rw[yl hlt1]at hz1;simp only[ybn]at hz1;refine rS ?_;refine AWP.cond rfl (fun hb => ?_) (fun hb => ?_)
  ·simp only[hb,cond_true]at hz1
   iterate 2 refine rS ?_
   exact⟨_,[2],hlt1,wt,hz1,sm⟩
  ·simp only[hb,cond_false]at hz1
   iterate 2 refine rS ?_
   exact⟨_,[2],hlt1,wt,hz1,sm⟩
 ·obtain rfl:i1=((([[46,45],[45,46,46,46],[45,46,45,46],[45,46,46],[46],[46,46,45,46],[45,45,46],[46,46,46,46],[46,46],[46,45,45,45],[45,46,45],[46,45,46,46],[45,45],[45,46],[45,45,45],[46,45,45,46],[45,45,46,45],[46,45,46],[46,46,46],[45],[46,46,45],[46,46,46,45],[46,45,45],[45,46,46,45],[45,46,45,45],[45,45,46,46]]:List (List UInt8)).getD ((IntKind.wrap .u8 (a0-65)).toNat) default).length):=ot
  rw[yk (Nat.le_refl _)]at hz1;subst hz1;dsimp only at hR;refine AWP.exit ?_;refine yd ?_;refine rS ?_;refine AWP.ret ?_;subst hR;exact es
end N256
def D_zyb : DF
 | [x0]=>some (ownL 2 1 yx (zyb (rdI x0)),false,[wI .u8 x0,65<=(rdI x0),(rdI x0)<=90])
 | _=>none
theorem yv7:OkD Tryz.prog 256 D_zyb:=by unfold D_zyb;exact dk N256.den
theorem ymh (a:Int):zyb a=(ynd.getD (IntKind.wrap .u8 (a-65)).toNat default).map (fun c=>if c=46 then(5:Int)else 15):=by
 have h:=ylf (ybn a) (fun j=>[if((ynd.getD (IntKind.wrap .u8 (a-65)).toNat default).getD j 0)=46 then(5:Int)else 15]) (ynd.getD (IntKind.wrap .u8 (a-65)).toNat default).length 0 [] (fun j s _ _=>by
  show(bif ((((ynd.getD (IntKind.wrap .u8 (a-65)).toNat default).getD j 0).toNat:Int) == 46)then(.ok (s++[5]):Except (List Int) (List Int))else .ok (s++[15]))=_;generalize (ynd.getD (IntKind.wrap .u8 (a-65)).toNat default).getD j 0=c;by_cases hc:c=46
  ·subst hc;rfl
  ·have:((c.toNat:Int) == 46)=false:=by
    rw[beq_eq_false_iff_ne];intro h;exact hc (UInt8.toNat_inj.1 (by show c.toNat=46;omega))
   rw[this,if_neg hc];rfl)
 have e:zyb a=(match yh (ybn a) (ynd.getD (IntKind.wrap .u8 (a-65)).toNat default).length 0 ([]:List Int)with|.error e=>e|.ok s1=>s1):=rfl;rw[e,h];simp only[List.nil_append];exact y0h _ 0 (fun c=>if c=46 then(5:Int)else 15)
theorem yzs (a:Int):(zyb a).length<=4:=by
 rw[ymh,List.length_map];exact yim _
def zxc (a0:Character):Bool:=
 ((a0.Kind == 1) || (((a0.Kind == 6) || (a0.Kind == 7)) && ((a0.Group.length:Int) == 0)))
namespace N160
theorem DD:DOk Tryz.prog (Go.Ab.DD []):=yf _
theorem den (a0:Character)  : Den Tryz.prog 160 [.ep (yj a0)] (.bool (zxc a0)):=by
 generalize hR:zxc a0=r;unfold zxc at hR;refine di Tryz.func160 Tryz.ntmps160 Tryz.results160 ?_;intro c hL hc hk;obtain⟨hL0,_⟩:=hL;have hw0:bwCharacter a0:=yv a0 hL0;clear hL0;simp only[pars,Nat.zero_add];iterate 2 refine rS ?_
 refine AWP.ret ?_;subst hR;exact es
end N160
def D_zxc : DF
 | [x0]=>some (.bool (zxc (rdP yg x0)),false,[wP yj yg x0])
 | _=>none
theorem yoo:OkD Tryz.prog 160 D_zxc:=by unfold D_zxc;exact dk N160.den
def ylq (a0:(List Int)) (i1:Nat) (s1:Int):Except (Int) (Int):=
 .ok (IntKind.wrap .i64 (s1+(a0.getD i1 default)))
def zqe (a0:(List Int)):Int:=
 (match yh (ylq a0) (a0.length-0) 0 0 with|.error e=>e|.ok s1=>s1)
namespace N214
theorem DD:DOk Tryz.prog (Go.Ab.DD []):=yf _
theorem den (a0:(List Int))  : Den Tryz.prog 214 [encL 1 yx a0] (.int .i64 (zqe a0)):=by
 generalize hR:zqe a0=r;unfold zqe at hR;refine di Tryz.func214 Tryz.ntmps214 Tryz.results214 ?_;intro c hL hc hk;obtain⟨hL0,_⟩:=hL;have hw0:a0.length<9223372036854775808:=Nat.lt_succ_of_le (yb hL0).1;clear hL0;simp only[pars,Nat.zero_add];iterate 3 refine rS ?_
 refine AWP.block ?_;generalize hz1:yh (ylq a0) (a0.length-0) 0 0=z1 at hR;refine AWP.range (ylq a0) (fun i1 s1=>⟨[(0,encL 1 yx a0),(3,.int .i64 s1),(4,.int .i64 (i1:Int))],[]⟩) (fun i1 s1=>True) (a0.length) 0 0 [] hz1 ot wt sm ?_;clear hz1;intro i1 s1 hi1 hW1 hz1;refine rS ?_;refine AWP.cond rfl (fun hb => ?_) (fun hb => ?_)
 ·have hlt1:i1<a0.length:=ot
  rw[yl hlt1]at hz1;simp only[ylq]at hz1;iterate 2 refine rS ?_
  exact⟨_,[],hlt1,wt,hz1,sm⟩
 ·obtain rfl:i1=a0.length:=ot
  rw[yk (Nat.le_refl _)]at hz1;subst hz1;dsimp only at hR;refine AWP.exit ?_;refine yd ?_;refine rS ?_;refine AWP.ret ?_;subst hR;exact es
end N214
def D_zqe : DF
 | [x0]=>some (.int .i64 (zqe (rdL ynb x0)),false,[wL 1 yx ynb x0])
 | _=>none
theorem yh3:OkD Tryz.prog 214 D_zqe:=by unfold D_zqe;exact dk N214.den
def zqc (a0:Int):Int:=
 (bif (a0 == 2)then 10 else(bif (a0 == 4)then 15 else(bif (a0 == 5)then 20 else(bif (a0 == 7)then 3 else 5))))
namespace N257
theorem DD:DOk Tryz.prog (Go.Ab.DD []):=yf _
theorem den (a0:Int)  : Den Tryz.prog 257 [.int .i64 a0] (.int .i64 (zqc a0)):=by
 generalize hR:zqc a0=r;unfold zqc at hR;refine di Tryz.func257 Tryz.ntmps257 Tryz.results257 ?_;intro c hL hc hk;clear hL;simp only[pars,Nat.zero_add];iterate 3 refine rS ?_
 refine AWP.cond rfl (fun hb => ?_) (fun hb => ?_)
 ·replace hR:=ct hR
  refine rS ?_;refine AWP.ret ?_;subst hR;exact es
 ·replace hR:=cf hR
  refine rS ?_;refine AWP.cond rfl (fun hb => ?_) (fun hb => ?_)
  ·replace hR:=ct hR
   refine rS ?_;refine AWP.ret ?_;subst hR;exact es
  ·replace hR:=cf hR
   refine rS ?_;refine AWP.cond rfl (fun hb => ?_) (fun hb => ?_)
   ·replace hR:=ct hR
    refine rS ?_;refine AWP.ret ?_;subst hR;exact es
   ·replace hR:=cf hR
    refine rS ?_;refine AWP.cond rfl (fun hb => ?_) (fun hb => ?_)
    ·replace hR:=ct hR
     refine rS ?_;refine AWP.ret ?_;subst hR;exact es
    ·replace hR:=cf hR
     refine rS ?_;refine AWP.ret ?_;subst hR;exact es
end N257
def D_zqc : DF
 | [x0]=>some (.int .i64 (zqc (rdI x0)),false,[wI .i64 x0])
 | _=>none
theorem y7x:OkD Tryz.prog 257 D_zqc:=by unfold D_zqc;exact dk N257.den
def zdf (a0:Int):Int:=
 (bif (a0 == 2)then 10 else(bif (a0 == 5)then 20 else(bif (a0 == 7)then 2 else 5)))
namespace N258
theorem DD:DOk Tryz.prog (Go.Ab.DD []):=yf _
theorem den (a0:Int)  : Den Tryz.prog 258 [.int .i64 a0] (.int .i64 (zdf a0)):=by
 generalize hR:zdf a0=r;unfold zdf at hR;refine di Tryz.func258 Tryz.ntmps258 Tryz.results258 ?_;intro c hL hc hk;clear hL;simp only[pars,Nat.zero_add];iterate 3 refine rS ?_
 refine AWP.cond rfl (fun hb => ?_) (fun hb => ?_)
 ·replace hR:=ct hR
  refine rS ?_;refine AWP.ret ?_;subst hR;exact es
 ·replace hR:=cf hR
  refine rS ?_;refine AWP.cond rfl (fun hb => ?_) (fun hb => ?_)
  ·replace hR:=ct hR
   refine rS ?_;refine AWP.ret ?_;subst hR;exact es
  ·replace hR:=cf hR
   refine rS ?_;refine AWP.cond rfl (fun hb => ?_) (fun hb => ?_)
   ·replace hR:=ct hR
    refine rS ?_;refine AWP.ret ?_;subst hR;exact es
   ·replace hR:=cf hR
    refine rS ?_;refine AWP.ret ?_;subst hR;exact es
end N258
def D_zdf : DF
 | [x0]=>some (.int .i64 (zdf (rdI x0)),false,[wI .i64 x0])
 | _=>none
theorem y86:OkD Tryz.prog 258 D_zdf:=by unfold D_zdf;exact dk N258.den
def zog (a0:Character):Int:=
 (bif (a0.Kind == 6)then 20 else(bif (a0.Kind == 7)then 10 else(bif (a0.Kind == 8)then 30 else(bif decide (1<(a0.Group.length:Int))then IntKind.wrap .i64 ((IntKind.wrap .i64 ((zqc a0.Kind)+5))+20)else IntKind.wrap .i64 ((zqc a0.Kind)+5)))))
namespace N216
theorem DD:DOk Tryz.prog (Go.Ab.DD [(257,dP D_zqc)]):=ya y7x.e <| yf _
abbrev dn:=@D_zqc.eq_1
theorem den (a0:Character)  : Den Tryz.prog 216 [.ep (yj a0)] (.int .i64 (zog a0)):=by
 generalize hR:zog a0=r;unfold zog at hR;refine di Tryz.func216 Tryz.ntmps216 Tryz.results216 ?_;intro c hL hc hk;obtain⟨hL0,_⟩:=hL;have hw0:bwCharacter a0:=yv a0 hL0;clear hL0;simp only[pars,Nat.zero_add];iterate 3 refine rS ?_
 refine AWP.cond rfl (fun hb => ?_) (fun hb => ?_)
 ·replace hR:=ct hR
  refine rS ?_;refine AWP.ret ?_;subst hR;exact es
 ·replace hR:=cf hR
  refine rS ?_;refine AWP.cond rfl (fun hb => ?_) (fun hb => ?_)
  ·replace hR:=ct hR
   refine rS ?_;refine AWP.ret ?_;subst hR;exact es
  ·replace hR:=cf hR
   refine rS ?_;refine AWP.cond rfl (fun hb => ?_) (fun hb => ?_)
   ·replace hR:=ct hR
    refine rS ?_;refine AWP.ret ?_;subst hR;exact es
   ·replace hR:=cf hR
    iterate 2 refine rS ?_
    refine AWP.cond rfl (fun hb => ?_) (fun hb => ?_)
    ·replace hR:=ct hR
     iterate 2 refine rS ?_
     refine AWP.ret ?_;subst hR;exact es
    ·replace hR:=cf hR
     refine rS ?_;refine AWP.ret ?_;subst hR;exact es
end N216
def D_zog : DF
 | [x0]=>some (.int .i64 (zog (rdP yg x0)),false,[wP yj yg x0])
 | _=>none
theorem yc3:OkD Tryz.prog 216 D_zog:=by unfold D_zog;exact dk N216.den
def y3r (a0:(List Sector)) (i1:Nat) (s1:List UInt8) (i2:Nat) (s2:List UInt8):Except (Sum ((List UInt8)) (List UInt8)) (List UInt8):=
 (bif (((a0.getD i2 default).Color) == ([[87],[82],[71],[89]].getD i1 default))then .error (.inr (s2++([[87],[82],[71],[89]].getD i1 default)))else .ok s2)
def ydn (a0:(List Sector)) (i1:Nat) (s1:List UInt8):Except ((List UInt8)) (List UInt8):=
 (match yh (y3r a0 i1 s1) (a0.length-0) 0 s1 with|.error (.inl e)=>.error e|.error (.inr s2)=>.ok s2|.ok s2=>.ok s2)
def zeb (a0:(List Sector)):(List UInt8):=
 (match yh (ydn a0) (4-0) 0 []with|.error e=>e|.ok s1=>s1)
namespace N98
theorem DD:DOk Tryz.prog (Go.Ab.DD []):=yf _
theorem o0 {p:Prop} (h:p:=by(first|(have h4:=hq4 i1;have h1:=hW1;have h2:=hW2;and_intros<;>omega));first|done|fail):p:=h
theorem lx {p:Prop} (h:p:=by(exact lxx);first|done|fail):p:=h
theorem den (a0:(List Sector)) (hb0:a0.length<1099511627776) (hb1:∀ v∈a0,bdSector v):Den Tryz.prog 98 [encL 3 yr a0] (.str (zeb a0)):=by
 generalize hR:zeb a0=r;unfold zeb at hR;refine di Tryz.func98 Tryz.ntmps98 Tryz.results98 ?_;intro c hL hc hk;obtain⟨hL0,_⟩:=hL;have hw0:a0.length<9223372036854775808:=Nat.lt_succ_of_le (yb hL0).1;have hw1:∀ v∈a0,bwSector v:=fun v hv=>y8 v ((yb hL0).2 v hv)
 clear hL0;simp only[pars,Nat.zero_add];have hq4:∀ i:Nat,(([[87],[82],[71],[89]]:List (List UInt8)).getD i default).length<=1:=fun i=>by rcases i with _|_|_|_|i<;>first|exact Nat.le_refl _|exact Nat.zero_le _
 iterate 4 refine rS ?_
 refine AWP.block ?_;generalize hz1:yh (ydn a0) (4-0) 0 []=z1 at hR;refine AWP.range (ydn a0) (fun i1 s1=>⟨[(0,encL 3 yr a0),(3,.str s1),(4,.ref 0 1 0 4),(5,.int .i64 (i1:Int))],[.arr 9 1 [[87],[82],[71],[89]].length (fun j=>eS ([[87],[82],[71],[89]].getD j default))]⟩) (fun i1 s1=>s1.length<=i1) (4) 0 [] [0] hz1 ot (by(simp)) sm ?_;clear hz1;intro i1 s1 hi1 hW1 hz1;refine rS ?_;refine AWP.cond rfl (fun hb => ?_) (fun hb => ?_)
 ·have hlt1:i1<4:=ot
  rw[yl hlt1]at hz1;simp only[ydn]at hz1;refine rS ?_;refine AWP.block ?_;generalize hz2:yh (y3r a0 i1 s1) (a0.length-0) 0 s1=z2 at hz1;refine AWP.range (y3r a0 i1 s1) (fun i2 s2=>⟨[(0,encL 3 yr a0),(3,.str s2),(4,.ref 0 1 0 4),(5,.int .i64 (i1:Int)),(6,.int .i64 (i2:Int))],[.arr 9 1 [[87],[82],[71],[89]].length (fun j=>eS ([[87],[82],[71],[89]].getD j default))]⟩) (fun i2 s2=>s2.length<=i1) (a0.length) 0 s1 [0] hz2 ot (by(exact hW1)) sm ?_;clear hz2;intro i2 s2 hi2 hW2 hz2;refine rS ?_;refine AWP.cond rfl (fun hb => ?_) (fun hb => ?_)
  ·have hlt2:i2<a0.length:=ot
   rw[yl hlt2]at hz2;simp only[y3r]at hz2;refine rD 9 ?_;refine AWP.cond rfl (fun hb => ?_) (fun hb => ?_)
   ·simp only[hb,cond_true]at hz2
    refine rS ?_;refine AWP.exit ?_;refine ywj rfl ?_;refine yd ?_;subst hz2;dsimp only at hz1;refine rS ?_;exact⟨_,[0],hlt1,by(have h4:=hq4 i1;simp only[ln]at *;omega),hz1,sm⟩
   ·simp only[hb,cond_false]at hz2
    refine rS ?_;exact⟨_,[0],hlt2,by(first|exact hW2|assumption),hz2,sm⟩
  ·obtain rfl:i2=a0.length:=ot
   rw[yk (Nat.le_refl _)]at hz2;subst hz2;dsimp only at hz1;refine AWP.exit ?_;refine yd ?_;refine rS ?_;exact⟨_,[0],hlt1,by(have h4:=hq4 i1;simp only[ln]at *;omega),hz1,sm⟩
 ·obtain rfl:i1=4:=ot
  rw[yk (Nat.le_refl _)]at hz1;subst hz1;dsimp only at hR;refine AWP.exit ?_;refine yd ?_;refine rS ?_;refine AWP.ret ?_;subst hR;exact es
end N98
def D_zeb : DF
 | [x0]=>some (.str (zeb (rdL yz x0)),false,[wL 3 yr yz x0,(rdL yz x0).length<1099511627776,∀ v∈(rdL yz x0),bdSector v])
 | _=>none
theorem y7v:OkD Tryz.prog 98 D_zeb:=by unfold D_zeb;exact dk N98.den
def zpd (a0:Point):Bool:=
 ((zg a0.X 0 200000) && (zg a0.Y 0 200000))
namespace N106
theorem DD:DOk Tryz.prog (Go.Ab.DD [(49,dP D_zg)]):=ya y5e.e <| yf _
abbrev dn:=@D_zg.eq_1
abbrev ol:=@zg.eq_1
theorem den (a0:Point)  : Den Tryz.prog 106 [.agg (ypf a0)] (.bool (zpd a0)):=by
 generalize hR:zpd a0=r;unfold zpd at hR;refine di Tryz.func106 Tryz.ntmps106 Tryz.results106 ?_;intro c hL hc hk;clear hL;simp only[pars,Nat.zero_add];iterate 2 refine rS ?_
 refine AWP.ret ?_;subst hR;exact es
end N106
def D_zpd : DF
 | [x0]=>some (.bool (zpd (rdG y1k x0)),false,[wG ypf y1k x0])
 | _=>none
theorem y43:OkD Tryz.prog 106 D_zpd:=by unfold D_zpd;exact dk N106.den
def zyc (a0:Character):Bool:=
 (((((a0.Kind == 0) && ((a0.Group.length:Int) == 0)) && (a0.Letter == [])) && (a0.Colors == [])) && (a0.Period == 0))
namespace N108
theorem DD:DOk Tryz.prog (Go.Ab.DD []):=yf _
theorem den (a0:Character)  : Den Tryz.prog 108 [.ep (yj a0)] (.bool (zyc a0)):=by
 generalize hR:zyc a0=r;unfold zyc at hR;refine di Tryz.func108 Tryz.ntmps108 Tryz.results108 ?_;intro c hL hc hk;obtain⟨hL0,_⟩:=hL;have hw0:bwCharacter a0:=yv a0 hL0;clear hL0;simp only[pars,Nat.zero_add];iterate 2 refine rS ?_
 refine AWP.ret ?_;subst hR;exact es
end N108
def D_zyc : DF
 | [x0]=>some (.bool (zyc (rdP yg x0)),false,[wP yj yg x0])
 | _=>none
theorem yd4:OkD Tryz.prog 108 D_zyc:=by unfold D_zyc;exact dk N108.den
def zqh (a0:(List Int)):(List Int):=
 ([]:List Int)++a0
namespace N217
theorem DD:DOk Tryz.prog (Go.Ab.DD []):=yf _
theorem den (a0:(List Int)) (hb0:a0.length<1099511627776):Den Tryz.prog 217 [encL 1 yx a0] (ownL 2 1 yx (zqh a0)):=by
 generalize hR:zqh a0=r;unfold zqh at hR;refine di Tryz.func217 Tryz.ntmps217 Tryz.results217 ?_;intro c hL hc hk;obtain⟨hL0,_⟩:=hL;have hw0:a0.length<9223372036854775808:=Nat.lt_succ_of_le (yb hL0).1;clear hL0;simp only[pars,Nat.zero_add];iterate 2 refine rS ?_
 refine AWP.ret ?_;subst hR;exact es
end N217
def D_zqh : DF
 | [x0]=>some (ownL 2 1 yx (zqh (rdL ynb x0)),false,[wL 1 yx ynb x0,(rdL ynb x0).length<1099511627776])
 | _=>none
theorem yv5:OkD Tryz.prog 217 D_zqh:=by unfold D_zqh;exact dk N217.den
def zrh (a0:Character):Character:=
 { Kind:=a0.Kind,Group:=(zqh a0.Group),Letter:=a0.Letter,Colors:=a0.Colors,Period:=a0.Period:Character }
namespace N162
theorem DD:DOk Tryz.prog (Go.Ab.DD [(217,dP D_zqh)]):=ya yv5.e <| yf _
abbrev dn:=@D_zqh.eq_1
theorem den (a0:Character) (hb0:bdCharacter a0):Den Tryz.prog 162 [.ep (yj a0)] (.agg (y6b (zrh a0))):=by
 generalize hR:zrh a0=r;unfold zrh at hR;refine di Tryz.func162 Tryz.ntmps162 Tryz.results162 ?_;intro c hL hc hk;obtain⟨hL0,_⟩:=hL;have hw0:bwCharacter a0:=yv a0 hL0;clear hL0;simp only[pars,Nat.zero_add];iterate 4 refine rS ?_
 refine AWP.ret ?_;subst hR;exact es
end N162
def D_zrh : DF
 | [x0]=>some (.agg (y6b (zrh (rdP yg x0))),false,[wP yj yg x0,bdCharacter (rdP yg x0)])
 | _=>none
theorem yi4:OkD Tryz.prog 162 D_zrh:=by unfold D_zrh;exact dk N162.den
def zre (a0:Aid):Aid:=
 { Number:=a0.Number,Name:=a0.Name,At:=a0.At,Height:=a0.Height,Mark:=a0.Mark,Light:=zrh a0.Light,Sectors:=([]:List Sector)++a0.Sectors,Intensity:=a0.Intensity:Aid }
namespace N100
theorem DD:DOk Tryz.prog (Go.Ab.DD [(162,dP D_zrh)]):=ya yi4.e <| yf _
abbrev dn:=@D_zrh.eq_1
theorem den (a0:Aid) (hb0:bdAid a0):Den Tryz.prog 100 [.ep (eAid a0)] (.agg (y4b (zre a0))):=by
 generalize hR:zre a0=r;unfold zre at hR;refine di Tryz.func100 Tryz.ntmps100 Tryz.results100 ?_;intro c hL hc hk;obtain⟨hL0,_⟩:=hL;have hw0:bwAid a0:=y3 a0 hL0;clear hL0;simp only[pars,Nat.zero_add];iterate 5 refine rS ?_
 refine AWP.ret ?_;subst hR;exact es
end N100
def D_zre : DF
 | [x0]=>some (.agg (y4b (zre (rdP dAid x0))),false,[wP eAid dAid x0,bdAid (rdP dAid x0)])
 | _=>none
theorem yfo:OkD Tryz.prog 100 D_zre:=by unfold D_zre;exact dk N100.den
end Go.Ab
