/- A part of a proof: walks of functions and lemmas of our own. No conditions. -/
import Derived.Test.YthadgghdkkapaaaGreatDoorPAl
import Derived.Test.YthadgghdkkapaaaGreatDoorPAn
set_option linter.unusedSectionVars false
set_option linter.unusedVariables false
set_option linter.unusedSimpArgs false
set_option maxHeartbeats 1000000
namespace Go.Ab
open Go Go.Proofs
def zvb (a0:Int):Int:=
 (IntKind.wrap .i64 ((a0.tmod 360)+360)).tmod 360
namespace N214
theorem DD:DOk Tryz.prog (Go.Ab.DD []):=yb _
theorem den (a0:Int)  : Den Tryz.prog 214 [.int .i64 a0] (.int .i64 (zvb a0)):=by
 generalize hR:zvb a0=r;unfold zvb at hR;refine di Tryz.func214 Tryz.ntmps214 Tryz.results214 ?_;intro c hL hc hk;clear hL;simp only[pars,Nat.zero_add];iterate 2 refine rS ?_
 refine AWP.ret ?_;subst hR;exact es
end N214
def D_zvb : DF
 | [x0]=>some (.int .i64 (zvb (rdI x0)),false,[wI .i64 x0])
 | _=>none
theorem ytk:OkD Tryz.prog 214 D_zvb:=by unfold D_zvb;exact dk N214.den
def zge (a0:Int):Int:=
 ([0,17452,34899,52336,69756,87156,104528,121869,139173,156434,173648,190809,207912,224951,241922,258819,275637,292372,309017,325568,342020,358368,374607,390731,406737,422618,438371,453990,469472,484810,500000,515038,529919,544639,559193,573576,587785,601815,615661,629320,642788,656059,669131,681998,694658,707107,719340,731354,743145,754710,766044,777146,788011,798636,809017,819152,829038,838671,848048,857167,866025,874620,882948,891007,898794,906308,913545,920505,927184,933580,939693,945519,951057,956305,961262,965926,970296,974370,978148,981627,984808,987688,990268,992546,994522,996195,997564,998630,999391,999848,1000000]:List Int).getD ((a0).toNat) 0
namespace N215
theorem DD:DOk Tryz.prog (Go.Ab.DD []):=yb _
theorem o0 {p:Prop} (h:p:=by(first|(refine⟨hp0,?_⟩;show a0<91;omega)|omega);first|done|fail):p:=h
set_option maxHeartbeats 1000000 in
set_option maxRecDepth 20000 in
theorem den (a0:Int) (hp0:0<=a0) (hp1:a0<=90):Den Tryz.prog 215 [.int .i64 a0] (.int .i64 (zge a0)):=by
 generalize hR:zge a0=r;unfold zge at hR;refine di Tryz.func215 Tryz.ntmps215 Tryz.results215 ?_;intro c hL hc hk;clear hL;simp only[pars,Nat.zero_add];iterate 2 refine rS ?_
 refine AWP.ret ?_;subst hR;exact es
end N215
def D_zge : DF
 | [x0]=>some (.int .i64 (zge (rdI x0)),false,[wI .i64 x0,0<=(rdI x0),(rdI x0)<=90])
 | _=>none
theorem y2q:OkD Tryz.prog 215 D_zge:=by unfold D_zge;exact dk N215.den
theorem y2r (a:Int):0<=zvb a/\zvb a<360:=by
 unfold zvb;have h1 : -360<a.tmod 360:=Int.lt_tmod_of_pos a (by decide);have h2:a.tmod 360<360:=Int.tmod_lt_of_pos a (by decide);rw[show IntKind.wrap .i64 (a.tmod 360+360)=a.tmod 360+360 by rw[IntKind.wrap_i64];omega];exact⟨Int.tmod_nonneg _ (by omega),Int.tmod_lt_of_pos _ (by decide)⟩
theorem y9h {a:Int} (h0:0<=a) (h1:a<360):zvb a=a:=by
 unfold zvb;rw[Int.tmod_eq_of_lt h0 h1,show IntKind.wrap .i64 (a+360)=a+360 by rw[IntKind.wrap_i64];omega];rw[Int.tmod_eq_emod_of_nonneg (by omega)];omega
def yaj (a:Int):Int:=bif decide (90<zvb a)then zge (IntKind.wrap .i64 (180-zvb a))else zge (zvb a)
def yvr (a:Int):Int:=bif decide (180<=zvb a)then IntKind.wrap .i64 (0-yaj (IntKind.wrap .i64 (zvb a-180)))else yaj a
namespace N153
namespace A
theorem DD:DOk Tryz.prog (Go.Ab.DD [(214,dP D_zvb),(215,dP D_zge)]):=ya ytk.e <| ya y2q.e <| yb _
theorem dn:type_of% (And.intro @D_zvb.eq_1 <| @D_zge.eq_1):=by and_intros<;>intros<;>rfl
theorem o0 {p:Prop} (h:p:=by(first|(simp only[rdI,wI];(repeat' apply And.intro)<;>first|trivial|omega|(rw[IntKind.wrap_i64];omega)));first|done|fail):p:=h
theorem den (a0:Int) (hp0:0<=a0) (hp1:a0<180):Den Tryz.prog 153 [.int .i64 a0] (.int .i64 (yaj a0)):=by
 generalize hR:yaj a0=r;unfold yaj at hR;have hT:=y9h hp0 (by omega);refine di Tryz.func153 Tryz.ntmps153 Tryz.results153 ?_;intro c hL hc hk;clear hL;simp only[pars,Nat.zero_add];iterate 3 refine rS ?_
 refine AWP.cond rfl (fun hb => ?_) (fun hb => ?_)
 ·exfalso;have h9:=of_decide_eq_true hb;omega
 ·refine rS ?_
  refine AWP.cond rfl (fun hb => ?_) (fun hb => ?_)
  ·replace hR:=ct hR
   have h9:=of_decide_eq_true hb;refine rS ?_;refine AWP.ret ?_;subst hR;exact es
  ·replace hR:=cf hR
   have h9:=of_decide_eq_false hb;refine rS ?_;refine AWP.ret ?_;subst hR;exact es
end A
def D_sineA : DF
 | [x0]=>some (.int .i64 (yaj (rdI x0)),false,[wI .i64 x0,0<=rdI x0,rdI x0<180])
 | _=>none
theorem y6r:OkD Tryz.prog 153 D_sineA:=by unfold D_sineA;exact dk A.den
theorem DD:DOk Tryz.prog (Go.Ab.DD [(153,dP D_sineA),(214,dP D_zvb),(215,dP D_zge)]):=ya y6r.e <| ya ytk.e <| ya y2q.e <| yb _
theorem dn:type_of% (And.intro @D_sineA.eq_1 <| And.intro @D_zvb.eq_1 <| @D_zge.eq_1):=by and_intros<;>intros<;>rfl
theorem o0 {p:Prop} (h:p:=by(first|(simp only[rdI,wI];(repeat' apply And.intro)<;>first|trivial|omega|(rw[IntKind.wrap_i64];omega)));first|done|fail):p:=h
theorem den (a0:Int):Den Tryz.prog 153 [.int .i64 a0] (.int .i64 (yvr a0)):=by
 generalize hR:yvr a0=r;unfold yvr at hR;unfold yaj at hR;have hT:=y2r a0;refine di Tryz.func153 Tryz.ntmps153 Tryz.results153 ?_;intro c hL hc hk;clear hL;simp only[pars,Nat.zero_add];iterate 3 refine rS ?_
 refine AWP.cond rfl (fun hb => ?_) (fun hb => ?_)
 ·replace hR:=ct hR
  have h9:=of_decide_eq_true hb;refine rS ?_;refine AWP.ret ?_;subst hR;unfold yaj;exact es
 ·replace hR:=cf hR
  have h8:=of_decide_eq_false hb;refine rS ?_;refine AWP.cond rfl (fun hb => ?_) (fun hb => ?_)
  ·replace hR:=ct hR
   have h9:=of_decide_eq_true hb;refine rS ?_;refine AWP.ret ?_;subst hR;exact es
  ·replace hR:=cf hR
   have h9:=of_decide_eq_false hb;refine rS ?_;refine AWP.ret ?_;subst hR;exact es
end N153
def zqb (a0:Int):Int:=yvr a0
theorem y8z (a0:Int)  : Den Tryz.prog 153 [.int .i64 a0] (.int .i64 (zqb a0)):=by
 exact N153.den a0
def D_zqb : DF
 | [x0]=>some (.int .i64 (zqb (rdI x0)),false,[wI .i64 x0])
 | _=>none
theorem yxq:OkD Tryz.prog 153 D_zqb:=by
 intro xs r z ob h ho;unfold D_zqb at h;split at h
 ·simp only[Option.some.injEq,Prod.mk.injEq]at h
  obtain⟨rfl,rfl,rfl⟩:=h;obtain⟨h0,_⟩:=ho;exact Den.sim (y8z _ ) (yhb (yoh h0).1 <| trivial) (ypb (yoh h0).2 <| rfl) rfl
 ·cases h
def znc (a0:Int):Int:=
 (zqb (IntKind.wrap .i64 ((zvb a0)+90)))
namespace N154
theorem DD:DOk Tryz.prog (Go.Ab.DD [(153,dP D_zqb),(214,dP D_zvb)]):=ya yxq.e <| ya ytk.e <| yb _
theorem dn:type_of% (And.intro @D_zqb.eq_1 <| @D_zvb.eq_1):=by and_intros<;>intros<;>rfl
theorem den (a0:Int)  : Den Tryz.prog 154 [.int .i64 a0] (.int .i64 (znc a0)):=by
 generalize hR:znc a0=r;unfold znc at hR;refine di Tryz.func154 Tryz.ntmps154 Tryz.results154 ?_;intro c hL hc hk;clear hL;simp only[pars,Nat.zero_add];iterate 2 refine rS ?_
 refine AWP.ret ?_;subst hR;exact es
end N154
def D_znc : DF
 | [x0]=>some (.int .i64 (znc (rdI x0)),false,[wI .i64 x0])
 | _=>none
theorem y9v:OkD Tryz.prog 154 D_znc:=by unfold D_znc;exact dk N154.den
def zwc (a0:Int) (a1:Point) (a2:Point):Int:=
 IntKind.wrap .i64 ((IntKind.wrap .i64 ((IntKind.wrap .i64 (a1.X-a2.X)) * (zqb a0)))+(IntKind.wrap .i64 ((IntKind.wrap .i64 (a1.Y-a2.Y)) * (znc a0))))
namespace N152
theorem DD:DOk Tryz.prog (Go.Ab.DD [(153,dP D_zqb),(154,dP D_znc)]):=ya yxq.e <| ya y9v.e <| yb _
theorem dn:type_of% (And.intro @D_zqb.eq_1 <| @D_znc.eq_1):=by and_intros<;>intros<;>rfl
theorem den (a0:Int) (a1:Point) (a2:Point)  : Den Tryz.prog 152 [.int .i64 a0,.ep (yx a1),.ep (yx a2)] (.int .i64 (zwc a0 a1 a2)):=by
 generalize hR:zwc a0 a1 a2=r;unfold zwc at hR;refine di Tryz.func152 Tryz.ntmps152 Tryz.results152 ?_;intro c hL hc hk;clear hL;simp only[pars,Nat.zero_add];refine rS ?_;refine rD 16 ?_;refine AWP.ret ?_;subst hR;exact es
end N152
def D_zwc : DF
 | [x0,x1,x2]=>some (.int .i64 (zwc (rdI x0) (rdP y7 x1) (rdP y7 x2)),false,[wI .i64 x0,wP yx y7 x1,wP yx y7 x2])
 | _=>none
theorem ycx:OkD Tryz.prog 152 D_zwc:=by unfold D_zwc;exact dk N152.den
def zi (a0:Int) (a1:Int) (a2:Int):Bool:=
 (decide (a1<=a0) && decide (a0<=a2))
namespace N101
theorem DD:DOk Tryz.prog (Go.Ab.DD []):=yb _
theorem den (a0:Int) (a1:Int) (a2:Int)  : Den Tryz.prog 101 [.int .i64 a0,.int .i64 a1,.int .i64 a2] (.bool (zi a0 a1 a2)):=by
 generalize hR:zi a0 a1 a2=r;unfold zi at hR;refine di Tryz.func101 Tryz.ntmps101 Tryz.results101 ?_;intro c hL hc hk;clear hL;simp only[pars,Nat.zero_add];iterate 2 refine rS ?_
 refine AWP.ret ?_;subst hR;exact es
end N101
def D_zi : DF
 | [x0,x1,x2]=>some (.bool (zi (rdI x0) (rdI x1) (rdI x2)),false,[wI .i64 x0,wI .i64 x1,wI .i64 x2])
 | _=>none
theorem yec:OkD Tryz.prog 101 D_zi:=by unfold D_zi;exact dk N101.den
def zwb (a0:Point):Bool:=
 ((zi a0.X 0 200000) && (zi a0.Y 0 200000))
namespace N50
theorem DD:DOk Tryz.prog (Go.Ab.DD [(101,dP D_zi)]):=ya yec.e <| yb _
theorem dn:type_of% (@D_zi.eq_1):=by and_intros<;>intros<;>rfl
theorem ol:type_of% (@zi.eq_1):=@zi.eq_1
theorem den (a0:Point)  : Den Tryz.prog 50 [.agg (yx a0)] (.bool (zwb a0)):=by
 generalize hR:zwb a0=r;unfold zwb at hR;refine di Tryz.func50 Tryz.ntmps50 Tryz.results50 ?_;intro c hL hc hk;clear hL;simp only[pars,Nat.zero_add];iterate 2 refine rS ?_
 refine AWP.ret ?_;subst hR;exact es
end N50
def D_zwb : DF
 | [x0]=>some (.bool (zwb (rdG y7 x0)),false,[wG yx y7 x0])
 | _=>none
theorem ybh:OkD Tryz.prog 50 D_zwb:=by unfold D_zwb;exact dk N50.den
def yxf (a0:(List Point)) (i1:Nat) (s1:Unit):Except (Bool) (Unit):=
 (bif (!(zwb (a0.getD i1 default)))then .error false else .ok ())
def zkb (a0:(List Point)):Bool:=
 (match yh (yxf a0) (a0.length-0) 0 ()with|.error e=>e|.ok s1=>true)
namespace N49
theorem DD:DOk Tryz.prog (Go.Ab.DD [(50,dP D_zwb)]):=ya ybh.e <| yb _
theorem dn:type_of% (@D_zwb.eq_1):=by and_intros<;>intros<;>rfl
theorem den (a0:(List Point))  : Den Tryz.prog 49 [encL 2 yx a0] (.bool (zkb a0)):=by
 generalize hR:zkb a0=r;unfold zkb at hR;refine di Tryz.func49 Tryz.ntmps49 Tryz.results49 ?_;intro c hL hc hk;obtain⟨hL0,_⟩:=hL;have hw0:a0.length<9223372036854775808:=Nat.lt_succ_of_le (yf hL0).1;clear hL0;simp only[pars,Nat.zero_add];iterate 2 refine rS ?_
 refine AWP.block ?_;generalize hz1:yh (yxf a0) (a0.length-0) 0 ()=z1 at hR;refine AWP.range (yxf a0) (fun i1 s1=>⟨[(5,encL 2 yx a0),(6,.int .i64 (a0.length:Int)),(7,.int .i64 (i1:Int))],[]⟩) (fun i1 s1=>True) (a0.length) 0 () [] hz1 ot wt sm ?_;clear hz1;intro i1 s1 hi1 hW1 hz1;refine rS ?_;refine AWP.seq ?_;refine AWP.cond rfl (fun hb => ?_) (fun hb => ?_)
 ·have hlt1:i1<a0.length:=ot
  rw[yn hlt1]at hz1;simp only[yxf]at hz1;iterate 2 refine rS ?_
  refine AWP.cond rfl (fun hb => ?_) (fun hb => ?_)
  ·simp only[hb,cond_true]at hz1
   refine rS ?_;refine AWP.ret ?_;subst hz1;dsimp only at hR;subst hR;exact es
  ·simp only[hb,cond_false]at hz1
   refine rS ?_;exact⟨_,[],hlt1,wt,hz1,sm⟩
 ·obtain rfl:i1=a0.length:=ot
  rw[yp (Nat.le_refl _)]at hz1;subst hz1;dsimp only at hR;refine AWP.exit ?_;refine yc ?_;refine rS ?_;refine AWP.ret ?_;subst hR;exact es
end N49
def D_zkb : DF
 | [x0]=>some (.bool (zkb (rdL y7 x0)),false,[wL 2 yx y7 x0])
 | _=>none
theorem y9k:OkD Tryz.prog 49 D_zkb:=by unfold D_zkb;exact dk N49.den
def y2c (a0:Point) (a1:Point) (i1:Nat) (s1:Int×Int):Except (Int) (Int×Int):=
 (bif decide (s1.2<(zwc (i1:Int) a1 a0))then .ok ((i1:Int),(zwc (i1:Int) a1 a0))else .ok (s1.1,s1.2))
def zgb (a0:Point) (a1:Point):Int:=
 (bif ((!(zkb [a0,a1])) || (a0.X == a1.X && a0.Y == a1.Y))then 0 else(match yh (y2c a0 a1) (360-0) 0 (0,(zwc 0 a1 a0))with|.error e=>e|.ok s1=>s1.1))
namespace N103
theorem DD:DOk Tryz.prog (Go.Ab.DD [(152,dP D_zwc),(49,dP D_zkb)]):=ya ycx.e <| ya y9k.e <| yb _
theorem dn:type_of% (And.intro @D_zwc.eq_1 <| @D_zkb.eq_1):=by and_intros<;>intros<;>rfl
theorem lx {p:Prop} (h:p:=by(exact lxx);first|done|fail):p:=h
set_option maxHeartbeats 1000000 in
set_option maxRecDepth 20000 in
theorem den (a0:Point) (a1:Point)  : Den Tryz.prog 103 [.agg (yx a0),.agg (yx a1)] (.int .i64 (zgb a0 a1)):=by
 generalize hR:zgb a0 a1=r;unfold zgb at hR;refine di Tryz.func103 Tryz.ntmps103 Tryz.results103 ?_;intro c hL hc hk;clear hL;simp only[pars,Nat.zero_add];iterate 2 refine rS ?_
 refine AWP.cond rfl (fun hb => ?_) (fun hb => ?_)
 ·replace hR:=ct hR
  refine rS ?_;refine AWP.ret ?_;subst hR;exact es
 ·replace hR:=cf hR
  iterate 3 refine rS ?_
  refine AWP.block ?_;generalize hz1:yh (y2c a0 a1) (360-0) 0 (0,(zwc 0 a1 a0))=z1 at hR;refine AWP.range (y2c a0 a1) (fun i1 s1=>⟨[(5,.fn 152 0 [.ptr 0 0,.ptr 1 0]),(6,.int .i64 s1.1),(7,.int .i64 s1.2),(23,.int .i64 (i1:Int))],[.box [.int .i64 a1.X,.int .i64 a1.Y],.box [.int .i64 a0.X,.int .i64 a0.Y]]⟩) (fun i1 s1=>True) (360) 0 (0,(zwc 0 a1 a0)) [1,0] hz1 ot wt sm ?_;clear hz1;intro i1 s1 hi1 hW1 hz1;refine rS ?_;refine AWP.seq ?_;refine AWP.cond rfl (fun hb => ?_) (fun hb => ?_)
  ·have hlt1:i1<360:=ot
   rw[yn hlt1]at hz1;simp only[y2c]at hz1;iterate 3 refine rS ?_
   refine AWP.cond rfl (fun hb => ?_) (fun hb => ?_)
   ·simp only[hb,cond_true]at hz1
    iterate 2 refine rS ?_
    exact⟨_,[0,1],hlt1,wt,hz1,sm⟩
   ·simp only[hb,cond_false]at hz1
    refine rS ?_;exact⟨_,[0,1],hlt1,wt,hz1,sm⟩
  ·obtain rfl:i1=360:=ot
   rw[yp (Nat.le_refl _)]at hz1;subst hz1;dsimp only at hR;refine AWP.exit ?_;refine yc ?_;refine rS ?_;refine AWP.ret ?_;subst hR;exact es
end N103
def D_zgb : DF
 | [x0,x1]=>some (.int .i64 (zgb (rdG y7 x0) (rdG y7 x1)),false,[wG yx y7 x0,wG yx y7 x1])
 | _=>none
theorem yow:OkD Tryz.prog 103 D_zgb:=by unfold D_zgb;exact dk N103.den
def y8q (a0:Int) (s1:Int×Int):Except (Sum (Int) (Int×Int)) (Int×Int):=
 (bif decide (s1.1<s1.2)then(bif decide ((IntKind.wrap .i64 ((IntKind.wrap .i64 ((IntKind.wrap .i64 ((IntKind.wrap .i64 (s1.1+s1.2))+1)).tdiv 2)) * (IntKind.wrap .i64 ((IntKind.wrap .i64 ((IntKind.wrap .i64 (s1.1+s1.2))+1)).tdiv 2))))<=a0)then .ok (IntKind.wrap .i64 ((IntKind.wrap .i64 ((IntKind.wrap .i64 (s1.1+s1.2))+1)).tdiv 2),s1.2)else .ok (s1.1,IntKind.wrap .i64 ((IntKind.wrap .i64 ((IntKind.wrap .i64 ((IntKind.wrap .i64 (s1.1+s1.2))+1)).tdiv 2))-1)))else .error (.inr (s1.1,s1.2)))
def zpd (a0:Int):Int:=
 (bif decide (a0<0)then 0 else(match ymb (y8q a0) ((((3037000499:Int)-(0:Int)).toNat)+1) (0,3037000499)with|.error (.inl e)=>e|.error (.inr s1)=>s1.1|.ok _=>default))
namespace N161
theorem DD:DOk Tryz.prog (Go.Ab.DD []):=yb _
theorem den (a0:Int)  : Den Tryz.prog 161 [.int .i64 a0] (.int .i64 (zpd a0)):=by
 generalize hR:zpd a0=r;unfold zpd at hR;refine di Tryz.func161 Tryz.ntmps161 Tryz.results161 ?_;intro c hL hc hk;clear hL;simp only[pars,Nat.zero_add];iterate 2 refine rS ?_
 refine AWP.cond rfl (fun hb => ?_) (fun hb => ?_)
 ·replace hR:=ct hR
  refine rS ?_;refine AWP.ret ?_;subst hR;exact es
 ·replace hR:=cf hR
  refine rS ?_;refine AWP.seq ?_;refine AWP.block ?_;generalize hz1:ymb (y8q a0) ((((3037000499:Int)-(0:Int)).toNat)+1) (0,3037000499)=z1 at hR;refine AWP.whileW (y8q a0) (fun s1=>⟨[(0,.int .i64 a0),(3,.int .i64 s1.1),(4,.int .i64 s1.2)],[]⟩) (fun s1=>0<=s1.1/\s1.1<=s1.2/\s1.2<=3037000499) (fun s1=>(s1.2-s1.1).toNat) ((((3037000499:Int)-(0:Int)).toNat)+1) (0,3037000499) [] hz1 m0 (by(refine⟨?_,?_,?_⟩<;>decide)) sm ?_;clear hz1;intro s1 k1 hW1 hm1 hz1;simp only[y8q]at hz1;refine rS ?_;refine AWP.cond rfl (fun hb => ?_) (fun hb => ?_)
  ·simp only[hb,cond_true]at hz1
   iterate 2 refine rS ?_
   refine AWP.cond rfl (fun hb => ?_) (fun hb => ?_)
   ·simp only[hb,cond_true]at hz1
    refine rS ?_;exact⟨_,[],by(have hl:s1.1<s1.2:=of_decide_eq_true (by assumption);obtain⟨m1,m2,m3⟩:=y4h hW1.1 hl hW1.2.2;(try simp only[]);first|omega|(rw[m3];omega)|(refine⟨?_,?_,?_⟩<;>(try simp only[])<;>first|omega|(rw[m3];omega))),by(have hl:s1.1<s1.2:=of_decide_eq_true (by assumption);obtain⟨m1,m2,m3⟩:=y4h hW1.1 hl hW1.2.2;(try simp only[]);first|omega|(rw[m3];omega)|(refine⟨?_,?_,?_⟩<;>(try simp only[])<;>first|omega|(rw[m3];omega))),hz1,sm⟩
   ·simp only[hb,cond_false]at hz1
    refine rS ?_;exact⟨_,[],by(have hl:s1.1<s1.2:=of_decide_eq_true (by assumption);obtain⟨m1,m2,m3⟩:=y4h hW1.1 hl hW1.2.2;(try simp only[]);first|omega|(rw[m3];omega)|(refine⟨?_,?_,?_⟩<;>(try simp only[])<;>first|omega|(rw[m3];omega))),by(have hl:s1.1<s1.2:=of_decide_eq_true (by assumption);obtain⟨m1,m2,m3⟩:=y4h hW1.1 hl hW1.2.2;(try simp only[]);first|omega|(rw[m3];omega)|(refine⟨?_,?_,?_⟩<;>(try simp only[])<;>first|omega|(rw[m3];omega))),hz1,sm⟩
  ·simp only[hb,cond_false]at hz1
   refine AWP.exit ?_;refine yc ?_;subst hz1;dsimp only at hR;refine rS ?_;refine AWP.ret ?_;subst hR;exact es
end N161
def D_zpd : DF
 | [x0]=>some (.int .i64 (zpd (rdI x0)),false,[wI .i64 x0])
 | _=>none
theorem y8x:OkD Tryz.prog 161 D_zpd:=by unfold D_zpd;exact dk N161.den
def ztf (a0:Point) (a1:Point):Int:=
 IntKind.wrap .i64 ((IntKind.wrap .i64 ((IntKind.wrap .i64 (a0.X-a1.X)) * (IntKind.wrap .i64 (a0.X-a1.X))))+(IntKind.wrap .i64 ((IntKind.wrap .i64 (a0.Y-a1.Y)) * (IntKind.wrap .i64 (a0.Y-a1.Y)))))
namespace N162
theorem DD:DOk Tryz.prog (Go.Ab.DD []):=yb _
theorem den (a0:Point) (a1:Point)  : Den Tryz.prog 162 [.agg (yx a0),.agg (yx a1)] (.int .i64 (ztf a0 a1)):=by
 generalize hR:ztf a0 a1=r;unfold ztf at hR;refine di Tryz.func162 Tryz.ntmps162 Tryz.results162 ?_;intro c hL hc hk;clear hL;simp only[pars,Nat.zero_add];iterate 2 refine rS ?_
 refine AWP.ret ?_;subst hR;exact es
end N162
def D_ztf : DF
 | [x0,x1]=>some (.int .i64 (ztf (rdG y7 x0) (rdG y7 x1)),false,[wG yx y7 x0,wG yx y7 x1])
 | _=>none
theorem ybw:OkD Tryz.prog 162 D_ztf:=by unfold D_ztf;exact dk N162.den
def zle (a0:Point) (a1:Point):Int:=
 (bif (!(zkb [a0,a1]))then 0 else(zpd (ztf a0 a1)))
namespace N108
theorem DD:DOk Tryz.prog (Go.Ab.DD [(161,dP D_zpd),(162,dP D_ztf),(49,dP D_zkb)]):=ya y8x.e <| ya ybw.e <| ya y9k.e <| yb _
theorem dn:type_of% (And.intro @D_zpd.eq_1 <| And.intro @D_ztf.eq_1 <| @D_zkb.eq_1):=by and_intros<;>intros<;>rfl
theorem lx {p:Prop} (h:p:=by(exact lxx);first|done|fail):p:=h
theorem den (a0:Point) (a1:Point)  : Den Tryz.prog 108 [.agg (yx a0),.agg (yx a1)] (.int .i64 (zle a0 a1)):=by
 generalize hR:zle a0 a1=r;unfold zle at hR;refine di Tryz.func108 Tryz.ntmps108 Tryz.results108 ?_;intro c hL hc hk;clear hL;simp only[pars,Nat.zero_add];iterate 2 refine rS ?_
 refine AWP.cond rfl (fun hb => ?_) (fun hb => ?_)
 ·replace hR:=ct hR
  refine rS ?_;refine AWP.ret ?_;subst hR;exact es
 ·replace hR:=cf hR
  refine rS ?_;refine AWP.ret ?_;subst hR;exact es
end N108
def D_zle : DF
 | [x0,x1]=>some (.int .i64 (zle (rdG y7 x0) (rdG y7 x1)),false,[wG yx y7 x0,wG yx y7 x1])
 | _=>none
theorem yzx:OkD Tryz.prog 108 D_zle:=by unfold D_zle;exact dk N108.den
def zzd (a0:Int):Bool:=
 (zi a0 0 359)
namespace N151
theorem DD:DOk Tryz.prog (Go.Ab.DD [(101,dP D_zi)]):=ya yec.e <| yb _
theorem dn:type_of% (@D_zi.eq_1):=by and_intros<;>intros<;>rfl
theorem ol:type_of% (@zi.eq_1):=@zi.eq_1
theorem den (a0:Int)  : Den Tryz.prog 151 [.int .i64 a0] (.bool (zzd a0)):=by
 generalize hR:zzd a0=r;unfold zzd at hR;refine di Tryz.func151 Tryz.ntmps151 Tryz.results151 ?_;intro c hL hc hk;clear hL;simp only[pars,Nat.zero_add];iterate 2 refine rS ?_
 refine AWP.ret ?_;subst hR;exact es
end N151
def D_zzd : DF
 | [x0]=>some (.bool (zzd (rdI x0)),false,[wI .i64 x0])
 | _=>none
theorem ylq:OkD Tryz.prog 151 D_zzd:=by unfold D_zzd;exact dk N151.den
def zre (a0:Int):(Int×Int):=
 (bif (!(zzd a0))then(0,2)else(bif (decide (315<=a0) || decide (a0<45))then(3,0)else(bif decide (a0<135)then(4,0)else(bif decide (a0<225)then(5,0)else(6,0)))))
namespace N102
theorem DD:DOk Tryz.prog (Go.Ab.DD [(151,dP D_zzd)]):=ya ylq.e <| yb _
theorem dn:type_of% (@D_zzd.eq_1):=by and_intros<;>intros<;>rfl
theorem den (a0:Int)  : Den Tryz.prog 102 [.int .i64 a0] (.tup [.int .i64 ((zre a0).1),.int .i64 ((zre a0).2)]):=by
 generalize hR:zre a0=r;unfold zre at hR;refine di Tryz.func102 Tryz.ntmps102 Tryz.results102 ?_;intro c hL hc hk;clear hL;simp only[pars,Nat.zero_add];iterate 2 refine rS ?_
 refine AWP.cond rfl (fun hb => ?_) (fun hb => ?_)
 ·replace hR:=ct hR
  refine rS ?_;refine AWP.ret ?_;subst hR;exact es
 ·replace hR:=cf hR
  refine rS ?_;refine AWP.cond rfl (fun hb => ?_) (fun hb => ?_)
  ·replace hR:=ct hR
   refine rS ?_;refine AWP.ret ?_;subst hR;exact es
  ·replace hR:=cf hR
   refine rS ?_;refine AWP.cond rfl (fun hb => ?_) (fun hb => ?_)
   ·replace hR:=ct hR
    refine rS ?_;refine AWP.ret ?_;subst hR;exact es
   ·replace hR:=cf hR
    refine rS ?_;refine AWP.cond rfl (fun hb => ?_) (fun hb => ?_)
    ·replace hR:=ct hR
     refine rS ?_;refine AWP.ret ?_;subst hR;exact es
    ·replace hR:=cf hR
     refine rS ?_;refine AWP.ret ?_;subst hR;exact es
end N102
def D_zre : DF
 | [x0]=>some (.tup [.int .i64 ((zre (rdI x0)).1),.int .i64 ((zre (rdI x0)).2)],false,[wI .i64 x0])
 | _=>none
theorem yaw:OkD Tryz.prog 102 D_zre:=by unfold D_zre;exact dk N102.den
def zkd (a0:Danger) (a1:Point):Int:=
 (zre (zgb a0.At a1)).1
namespace N51
theorem DD:DOk Tryz.prog (Go.Ab.DD [(102,dP D_zre),(103,dP D_zgb)]):=ya yaw.e <| ya yow.e <| yb _
theorem dn:type_of% (And.intro @D_zre.eq_1 <| @D_zgb.eq_1):=by and_intros<;>intros<;>rfl
theorem den (a0:Danger) (a1:Point)  : Den Tryz.prog 51 [.agg (yr a0),.agg (yx a1)] (.int .i64 (zkd a0 a1)):=by
 generalize hR:zkd a0 a1=r;unfold zkd at hR;refine di Tryz.func51 Tryz.ntmps51 Tryz.results51 ?_;intro c hL hc hk;obtain⟨hL0,hL1,_⟩:=hL;have hw0:bwDanger a0:=y5 a0 hL0;clear hL0 hL1;simp only[pars,Nat.zero_add];iterate 3 refine rS ?_
 refine AWP.ret ?_;subst hR;exact es
end N51
def D_zkd : DF
 | [x0,x1]=>some (.int .i64 (zkd (rdG yu x0) (rdG y7 x1)),false,[wG yr yu x0,wG yx y7 x1])
 | _=>none
theorem y3o:OkD Tryz.prog 51 D_zkd:=by unfold D_zkd;exact dk N51.den
def zqd (a0:Danger) (a1:Aid) (a2:Int):Bool:=
 (((zi a1.Mark.Kind 3 6) && (zi (zle a0.At a1.At) a0.Radius (IntKind.wrap .i64 (a0.Radius+a2)))) && (a1.Mark.Kind == (zkd a0 a1.At)))
namespace N57
theorem DD:DOk Tryz.prog (Go.Ab.DD [(101,dP D_zi),(108,dP D_zle),(51,dP D_zkd)]):=ya yec.e <| ya yzx.e <| ya y3o.e <| yb _
theorem dn:type_of% (And.intro @D_zi.eq_1 <| And.intro @D_zle.eq_1 <| @D_zkd.eq_1):=by and_intros<;>intros<;>rfl
theorem ol:type_of% (@zi.eq_1):=@zi.eq_1
theorem den (a0:Danger) (a1:Aid) (a2:Int)  : Den Tryz.prog 57 [.agg (yr a0),.agg (eAid a1),.int .i64 a2] (.bool (zqd a0 a1 a2)):=by
 generalize hR:zqd a0 a1 a2=r;unfold zqd at hR;refine di Tryz.func57 Tryz.ntmps57 Tryz.results57 ?_;intro c hL hc hk;obtain⟨hL0,hL1,hL2,_⟩:=hL;have hw0:bwDanger a0:=y5 a0 hL0;have hw1:bwAid a1:=yeb a1 hL1;clear hL0 hL1 hL2;simp only[pars,Nat.zero_add];refine rS ?_;refine rD 28 ?_;refine AWP.ret ?_;subst hR;exact es
end N57
def D_zqd : DF
 | [x0,x1,x2]=>some (.bool (zqd (rdG yu x0) (rdG dAid x1) (rdI x2)),false,[wG yr yu x0,wG eAid dAid x1,wI .i64 x2])
 | _=>none
theorem yyo:OkD Tryz.prog 57 D_zqd:=by unfold D_zqd;exact dk N57.den
def zzb (a0:Int) (a1:Int):Bool:=
 decide (a0<=a1)
namespace N112
theorem DD:DOk Tryz.prog (Go.Ab.DD []):=yb _
theorem den (a0:Int) (a1:Int)  : Den Tryz.prog 112 [.int .i64 a0,.int .i64 a1] (.bool (zzb a0 a1)):=by
 generalize hR:zzb a0 a1=r;unfold zzb at hR;refine di Tryz.func112 Tryz.ntmps112 Tryz.results112 ?_;intro c hL hc hk;clear hL;simp only[pars,Nat.zero_add];iterate 2 refine rS ?_
 refine AWP.ret ?_;subst hR;exact es
end N112
def D_zzb : DF
 | [x0,x1]=>some (.bool (zzb (rdI x0) (rdI x1)),false,[wI .i64 x0,wI .i64 x1])
 | _=>none
theorem y6g:OkD Tryz.prog 112 D_zzb:=by unfold D_zzb;exact dk N112.den
def zhf (a0:Int):Bool:=
 (decide (48<=a0) && decide (a0<=57))
namespace N150
theorem DD:DOk Tryz.prog (Go.Ab.DD []):=yb _
theorem den (a0:Int)  : Den Tryz.prog 150 [.int .u8 a0] (.bool (zhf a0)):=by
 generalize hR:zhf a0=r;unfold zhf at hR;refine di Tryz.func150 Tryz.ntmps150 Tryz.results150 ?_;intro c hL hc hk;clear hL;simp only[pars,Nat.zero_add];iterate 2 refine rS ?_
 refine AWP.ret ?_;subst hR;exact es
end N150
def D_zhf : DF
 | [x0]=>some (.bool (zhf (rdI x0)),false,[wI .u8 x0])
 | _=>none
theorem yrx:OkD Tryz.prog 150 D_zhf:=by unfold D_zhf;exact dk N150.den
def yzo (a0:(List UInt8)) (i1:Nat) (s1:Unit):Except (Bool) (Unit):=
 (bif ((!(decide (97<=((a0.getD i1 0).toNat:Int)) && decide (((a0.getD i1 0).toNat:Int)<=122))) && (((i1:Int) == 0) || (!(zhf ((a0.getD i1 0).toNat:Int)))))then .error false else .ok ())
def zpc (a0:(List UInt8)):Bool:=
 (match yh (yzo a0) (a0.length-0) 0 ()with|.error e=>e|.ok s1=>((a0 != []) && (zzb (a0.length:Int) 10)))
namespace N100
theorem DD:DOk Tryz.prog (Go.Ab.DD [(112,dP D_zzb),(150,dP D_zhf)]):=ya y6g.e <| ya yrx.e <| yb _
theorem dn:type_of% (And.intro @D_zzb.eq_1 <| @D_zhf.eq_1):=by and_intros<;>intros<;>rfl
theorem den (a0:(List UInt8))  : Den Tryz.prog 100 [.str a0] (.bool (zpc a0)):=by
 generalize hR:zpc a0=r;unfold zpc at hR;refine di Tryz.func100 Tryz.ntmps100 Tryz.results100 ?_;intro c hL hc hk;obtain⟨hL0,_⟩:=hL;have hw0:a0.length<9223372036854775808:=Nat.lt_succ_of_le hL0;clear hL0;simp only[pars,Nat.zero_add];iterate 2 refine rS ?_
 refine AWP.block ?_;generalize hz1:yh (yzo a0) (a0.length-0) 0 ()=z1 at hR;refine AWP.range (yzo a0) (fun i1 s1=>⟨[(0,.str a0),(3,.int .i64 (i1:Int))],[]⟩) (fun i1 s1=>True) (a0.length) 0 () [] hz1 ot wt sm ?_;clear hz1;intro i1 s1 hi1 hW1 hz1;refine rS ?_;refine AWP.cond rfl (fun hb => ?_) (fun hb => ?_)
 ·have hlt1:i1<a0.length:=ot
  rw[yn hlt1]at hz1;simp only[yzo]at hz1;iterate 2 refine rS ?_
  refine AWP.cond rfl (fun hb => ?_) (fun hb => ?_)
  ·simp only[hb,cond_true]at hz1
   refine rS ?_;refine AWP.ret ?_;subst hz1;dsimp only at hR;subst hR;exact es
  ·simp only[hb,cond_false]at hz1
   refine rS ?_;exact⟨_,[],hlt1,wt,hz1,sm⟩
 ·obtain rfl:i1=a0.length:=ot
  rw[yp (Nat.le_refl _)]at hz1;subst hz1;dsimp only at hR;refine AWP.exit ?_;refine yc ?_;refine rS ?_;refine AWP.ret ?_;subst hR;exact es
end N100
def D_zpc : DF
 | [x0]=>some (.bool (zpc (rdS x0)),false,[wS x0])
 | _=>none
theorem ylp:OkD Tryz.prog 100 D_zpc:=by unfold D_zpc;exact dk N100.den
def ysm (a0:(List Int)) (i1:Nat) (s1:Int):Except (Bool) (Int):=
 (bif (!(zi (a0.getD i1 default) 1 9))then .error false else .ok (IntKind.wrap .i64 (s1+(a0.getD i1 default))))
def zxc (a0:(List Int)):Bool:=
 (match yh (ysm a0) (a0.length-0) 0 0 with|.error e=>e|.ok s1=>(((zzb (a0.length:Int) 4) && decide (s1<=12)) && (!(zdc a0 ([1]:List Int)))))
namespace N235
theorem DD:DOk Tryz.prog (Go.Ab.DD [(101,dP D_zi),(112,dP D_zzb),(236,dP D_zdc)]):=ya yec.e <| ya y6g.e <| ya ydp.e <| yb _
theorem dn:type_of% (And.intro @D_zi.eq_1 <| And.intro @D_zzb.eq_1 <| @D_zdc.eq_1):=by and_intros<;>intros<;>rfl
theorem ol:type_of% (@zi.eq_1):=@zi.eq_1
theorem den (a0:(List Int))  : Den Tryz.prog 235 [encL 1 yq a0] (.bool (zxc a0)):=by
 generalize hR:zxc a0=r;unfold zxc at hR;refine di Tryz.func235 Tryz.ntmps235 Tryz.results235 ?_;intro c hL hc hk;obtain⟨hL0,_⟩:=hL;have hw0:a0.length<9223372036854775808:=Nat.lt_succ_of_le (yf hL0).1;clear hL0;simp only[pars,Nat.zero_add];iterate 3 refine rS ?_
 refine AWP.block ?_;generalize hz1:yh (ysm a0) (a0.length-0) 0 0=z1 at hR;refine AWP.range (ysm a0) (fun i1 s1=>⟨[(0,encL 1 yq a0),(3,.int .i64 s1),(6,encL 1 yq a0),(7,.int .i64 (a0.length:Int)),(8,.int .i64 (i1:Int))],[]⟩) (fun i1 s1=>True) (a0.length) 0 0 [] hz1 ot wt sm ?_;clear hz1;intro i1 s1 hi1 hW1 hz1;refine rS ?_;refine AWP.seq ?_;refine AWP.cond rfl (fun hb => ?_) (fun hb => ?_)
 ·have hlt1:i1<a0.length:=ot
  rw[yn hlt1]at hz1;simp only[ysm]at hz1;iterate 2 refine rS ?_
  refine AWP.cond rfl (fun hb => ?_) (fun hb => ?_)
  ·simp only[hb,cond_true]at hz1
   refine rS ?_;refine AWP.ret ?_;subst hz1;dsimp only at hR;subst hR;exact es
  ·simp only[hb,cond_false]at hz1
   iterate 2 refine rS ?_
   exact⟨_,[],hlt1,wt,hz1,sm⟩
 ·obtain rfl:i1=a0.length:=ot
  rw[yp (Nat.le_refl _)]at hz1;subst hz1;dsimp only at hR;refine AWP.exit ?_;refine yc ?_;refine rS ?_;refine AWP.ret ?_;subst hR;exact es
end N235
def D_zxc : DF
 | [x0]=>some (.bool (zxc (rdL ydb x0)),false,[wL 1 yq ydb x0])
 | _=>none
theorem yox:OkD Tryz.prog 235 D_zxc:=by unfold D_zxc;exact dk N235.den
def ybk (a0:(List UInt8)) (i1:Nat) (s1:Int):Except (Bool) (Int):=
 (bif decide ((zyd [87,82,71,89] ((a0.getD i1 0).toNat:Int))<=s1)then .error false else .ok (zyd [87,82,71,89] ((a0.getD i1 0).toNat:Int)))
def zqc (a0:(List UInt8)):Bool:=
 (match yh (ybk a0) (a0.length-0) 0 (-1)with|.error e=>e|.ok s1=>(zi (a0.length:Int) 1 3))
namespace N177
theorem DD:DOk Tryz.prog (Go.Ab.DD [(101,dP D_zi),(234,dP D_zyd)]):=ya yec.e <| ya y0v.e <| yb _
theorem dn:type_of% (And.intro @D_zi.eq_1 <| @D_zyd.eq_1):=by and_intros<;>intros<;>rfl
theorem ol:type_of% (@zi.eq_1):=@zi.eq_1
theorem den (a0:(List UInt8))  : Den Tryz.prog 177 [.str a0] (.bool (zqc a0)):=by
 generalize hR:zqc a0=r;unfold zqc at hR;refine di Tryz.func177 Tryz.ntmps177 Tryz.results177 ?_;intro c hL hc hk;obtain⟨hL0,_⟩:=hL;have hw0:a0.length<9223372036854775808:=Nat.lt_succ_of_le hL0;clear hL0;simp only[pars,Nat.zero_add];iterate 3 refine rS ?_
 refine AWP.block ?_;generalize hz1:yh (ybk a0) (a0.length-0) 0 (-1)=z1 at hR;refine AWP.range (ybk a0) (fun i1 s1=>⟨[(0,.str a0),(3,.int .i64 s1),(4,.int .i64 (i1:Int))],[]⟩) (fun i1 s1=>True) (a0.length) 0 (-1) [] hz1 ot wt sm ?_;clear hz1;intro i1 s1 hi1 hW1 hz1;refine rS ?_;refine AWP.cond rfl (fun hb => ?_) (fun hb => ?_)
 ·have hlt1:i1<a0.length:=ot
  rw[yn hlt1]at hz1;simp only[ybk]at hz1;iterate 2 refine rS ?_
  refine AWP.cond rfl (fun hb => ?_) (fun hb => ?_)
  ·simp only[hb,cond_true]at hz1
   refine rS ?_;refine AWP.ret ?_;subst hz1;dsimp only at hR;subst hR;exact es
  ·simp only[hb,cond_false]at hz1
   iterate 2 refine rS ?_
   exact⟨_,[],hlt1,wt,hz1,sm⟩
 ·obtain rfl:i1=a0.length:=ot
  rw[yp (Nat.le_refl _)]at hz1;subst hz1;dsimp only at hR;refine AWP.exit ?_;refine yc ?_;refine rS ?_;refine AWP.ret ?_;subst hR;exact es
end N177
def D_zqc : DF
 | [x0]=>some (.bool (zqc (rdS x0)),false,[wS x0])
 | _=>none
theorem yww:OkD Tryz.prog 177 D_zqc:=by unfold D_zqc;exact dk N177.den
def zrb (a0:(List UInt8)):(List UInt8):=
 (bif ((((a0.length:Int) != 1) || Op.bytesLess a0 [65]) || !(Op.bytesLess a0 [90] || a0 == [90]))then[]else([[46,45],[45,46,46,46],[45,46,45,46],[45,46,46],[46],[46,46,45,46],[45,45,46],[46,46,46,46],[46,46],[46,45,45,45],[45,46,45],[46,45,46,46],[45,45],[45,46],[45,45,45],[46,45,45,46],[45,45,46,45],[46,45,46],[46,46,46],[45],[46,46,45],[46,46,46,45],[46,45,45],[45,46,46,45],[45,46,45,45],[45,45,46,46]]:List (List UInt8)).getD ((IntKind.wrap .u8 (((a0.getD 0 0).toNat:Int)-65)).toNat) [])
namespace N237
theorem DD:DOk Tryz.prog (Go.Ab.DD []):=yb _
theorem o0 {p:Prop} (h:p:=by(first|(simp only[Bool.or_eq_false_iff,Bool.not_eq_false',Bool.or_eq_true,bne_eq_false_iff_eq]at hb;have h9:=yyu a0 hb;have h8:=hb.1.1;and_intros<;>omega));first|done|fail):p:=h
theorem den (a0:(List UInt8))  : Den Tryz.prog 237 [.str a0] (.str (zrb a0)):=by
 generalize hR:zrb a0=r;unfold zrb at hR;refine di Tryz.func237 Tryz.ntmps237 Tryz.results237 ?_;intro c hL hc hk;obtain⟨hL0,_⟩:=hL;have hw0:a0.length<9223372036854775808:=Nat.lt_succ_of_le hL0;clear hL0;simp only[pars,Nat.zero_add];iterate 2 refine rS ?_
 refine AWP.cond rfl (fun hb => ?_) (fun hb => ?_)
 ·replace hR:=ct hR
  refine rS ?_;refine AWP.ret ?_;subst hR;exact es
 ·replace hR:=cf hR
  refine rS ?_;refine AWP.ret ?_;subst hR;exact es
end N237
def D_zrb : DF
 | [x0]=>some (.str (zrb (rdS x0)),false,[wS x0])
 | _=>none
theorem ysq:OkD Tryz.prog 237 D_zrb:=by unfold D_zrb;exact dk N237.den
def zoc (a0:Character):Bool:=
 (bif (a0.Kind == 1)then(((a0.Group.length:Int) == 0) && (a0.Letter == []))else(bif (a0.Kind == 3)then(((a0.Group.length:Int) == 0) && (a0.Letter == []))else(bif (a0.Kind == 2)then((a0.Letter == []) && (zxc a0.Group))else(bif (a0.Kind == 4)then((a0.Letter == []) && (zxc a0.Group))else(bif (a0.Kind == 5)then((a0.Letter == []) && (zxc a0.Group))else(bif (a0.Kind == 6)then(bif (a0.Letter == [])then(((a0.Group.length:Int) == 0) || (((a0.Group.length:Int) == 1) && (zi (a0.Group.getD 0 default) 2 9)))else((a0.Letter == [76]) && (zdc a0.Group ([6]:List Int))))else(bif (a0.Kind == 7)then(bif (a0.Letter == [])then(((a0.Group.length:Int) == 0) || (((a0.Group.length:Int) == 1) && (zi (a0.Group.getD 0 default) 2 9)))else((a0.Letter == [76]) && (zdc a0.Group ([6]:List Int))))else(bif (a0.Kind == 8)then(((zrb a0.Letter) != []) && ((a0.Group.length:Int) == 0))else false))))))))
namespace N178
theorem DD:DOk Tryz.prog (Go.Ab.DD [(101,dP D_zi),(235,dP D_zxc),(236,dP D_zdc),(237,dP D_zrb)]):=ya yec.e <| ya yox.e <| ya ydp.e <| ya ysq.e <| yb _
theorem dn:type_of% (And.intro @D_zi.eq_1 <| And.intro @D_zxc.eq_1 <| And.intro @D_zdc.eq_1 <| @D_zrb.eq_1):=by and_intros<;>intros<;>rfl
theorem ol:type_of% (@zi.eq_1):=@zi.eq_1
theorem den (a0:Character)  : Den Tryz.prog 178 [.agg (ym a0)] (.bool (zoc a0)):=by
 generalize hR:zoc a0=r;unfold zoc at hR;refine di Tryz.func178 Tryz.ntmps178 Tryz.results178 ?_;intro c hL hc hk;obtain⟨hL0,_⟩:=hL;have hw0:bwCharacter a0:=yv a0 hL0;clear hL0;simp only[pars,Nat.zero_add];iterate 3 refine rS ?_
 refine AWP.cond rfl (fun hb => ?_) (fun hb => ?_)
 ·replace hR:=ct hR
  refine AWP.skip ?_;refine AWP.cond rfl (fun hb => ?_) (fun hb => ?_)
  ·refine rS ?_
   refine AWP.ret ?_;subst hR;exact es
  ·exfalso;simp_all
 ·replace hR:=cf hR
  refine rS ?_;refine AWP.cond rfl (fun hb => ?_) (fun hb => ?_)
  ·replace hR:=ct hR
   refine rS ?_;refine AWP.ret ?_;subst hR;exact es
  ·replace hR:=cf hR
   refine rS ?_;refine AWP.cond rfl (fun hb => ?_) (fun hb => ?_)
   ·replace hR:=ct hR
    refine AWP.skip ?_;refine AWP.cond rfl (fun hb => ?_) (fun hb => ?_)
    ·refine rS ?_
     refine AWP.ret ?_;subst hR;exact es
    ·exfalso;simp_all
   ·replace hR:=cf hR
    refine rS ?_;refine AWP.cond rfl (fun hb => ?_) (fun hb => ?_)
    ·replace hR:=ct hR
     refine AWP.skip ?_;refine AWP.cond rfl (fun hb => ?_) (fun hb => ?_)
     ·refine rS ?_
      refine AWP.ret ?_;subst hR;exact es
     ·exfalso;simp_all
    ·replace hR:=cf hR
     refine rS ?_;refine AWP.cond rfl (fun hb => ?_) (fun hb => ?_)
     ·replace hR:=ct hR
      refine rS ?_;refine AWP.ret ?_;subst hR;exact es
     ·replace hR:=cf hR
      refine rS ?_;refine AWP.cond rfl (fun hb => ?_) (fun hb => ?_)
      ·replace hR:=ct hR
       refine AWP.skip ?_;refine AWP.cond rfl (fun hb => ?_) (fun hb => ?_)
       ·refine rS ?_
        refine AWP.cond rfl (fun hb => ?_) (fun hb => ?_)
        ·replace hR:=ct hR
         refine rS ?_;refine AWP.ret ?_;subst hR;exact es
        ·replace hR:=cf hR
         refine rS ?_;refine AWP.ret ?_;subst hR;exact es
       ·exfalso;simp_all
      ·replace hR:=cf hR
       refine rS ?_;refine AWP.cond rfl (fun hb => ?_) (fun hb => ?_)
       ·replace hR:=ct hR
        refine rS ?_;refine AWP.cond rfl (fun hb => ?_) (fun hb => ?_)
        ·replace hR:=ct hR
         refine rS ?_;refine AWP.ret ?_;subst hR;exact es
        ·replace hR:=cf hR
         refine rS ?_;refine AWP.ret ?_;subst hR;exact es
       ·replace hR:=cf hR
        refine rS ?_;refine AWP.cond rfl (fun hb => ?_) (fun hb => ?_)
        ·replace hR:=ct hR
         refine rS ?_;refine AWP.ret ?_;subst hR;exact es
        ·replace hR:=cf hR
         refine rS ?_;refine AWP.ret ?_;subst hR;exact es
end N178
def D_zoc : DF
 | [x0]=>some (.bool (zoc (rdG ye x0)),false,[wG ym ye x0])
 | _=>none
theorem yfx:OkD Tryz.prog 178 D_zoc:=by unfold D_zoc;exact dk N178.den
theorem yah (a:List UInt8):zrb a=if a.length=1/\65<=(a.getD 0 0).toNat/\(a.getD 0 0).toNat<=90 then y4c.getD ((a.getD 0 0).toNat-65) []else[]:=by
 unfold zrb;by_cases h1:a.length=1
 ·have c1:((a.length:Int) != 1)=false:=by rw[h1];rfl
  rw[c1,y8e a 65 h1,y8e a 90 h1,y1s a 90 h1];have e1:(65:UInt8).toNat=65:=rfl;have e2:(90:UInt8).toNat=90:=rfl;rw[e1,e2];by_cases h2:65<=(a.getD 0 0).toNat/\(a.getD 0 0).toNat<=90
  ·rw[if_pos ⟨h1,h2⟩,decide_eq_false (by omega)]
   have c2:(decide ((a.getD 0 0).toNat<90) || decide ((a.getD 0 0).toNat=90))=true:=by
    rw[Bool.or_eq_true,decide_eq_true_eq,decide_eq_true_eq];omega
   rw[c2];simp only[Bool.or_self,Bool.not_true,cond_false];rw[yuh _ (by omega) (by omega),show((((a.getD 0 0).toNat:Int)-65).toNat)=(a.getD 0 0).toNat-65 by omega];rfl
  ·rw[if_neg (fun h=>h2 h.2)]
   by_cases h3:(a.getD 0 0).toNat<65
   ·rw[decide_eq_true h3];rfl
   ·have c2:(decide ((a.getD 0 0).toNat<90) || decide ((a.getD 0 0).toNat=90))=false:=by
     rw[decide_eq_false (by omega),decide_eq_false (by omega)];rfl
    rw[c2,decide_eq_false h3];rfl
 ·have c1:((a.length:Int) != 1)=true:=by rw[bne_iff_ne];omega
  rw[c1,if_neg (fun h=>h1 h.1)];rfl
theorem y6s (a:List UInt8):(zrb a).length<=4:=by
 rw[yah];split
 ·exact y2h _
 ·simp
theorem yio (a:List UInt8):∀ x∈zrb a,x.toNat<128:=by
 intro x hx;rw[yah]at hx;split at hx
 ·rw[List.getD_eq_getElem?_getD]at hx
  cases h:y4c[(a.getD 0 0).toNat-65]? with
  | none=>rw[h]at hx;simp at hx
  | some y=>
   rw[h]at hx;rcases(yvf y (List.mem_of_getElem? h)).2.2 x hx with e|e<;>subst e<;>decide
 ·simp at hx
def zuf (a0:Int):Bool:=
 ((a0 == 6) || (a0 == 7))
namespace N238
theorem DD:DOk Tryz.prog (Go.Ab.DD []):=yb _
theorem den (a0:Int)  : Den Tryz.prog 238 [.int .i64 a0] (.bool (zuf a0)):=by
 generalize hR:zuf a0=r;unfold zuf at hR;refine di Tryz.func238 Tryz.ntmps238 Tryz.results238 ?_;intro c hL hc hk;clear hL;simp only[pars,Nat.zero_add];iterate 2 refine rS ?_
 refine AWP.ret ?_;subst hR;exact es
end N238
def D_zuf : DF
 | [x0]=>some (.bool (zuf (rdI x0)),false,[wI .i64 x0])
 | _=>none
theorem y6v:OkD Tryz.prog 238 D_zuf:=by unfold D_zuf;exact dk N238.den
def zrd (a0:Character):Bool:=
 ((a0.Kind == 1) || ((zuf a0.Kind) && ((a0.Group.length:Int) == 0)))
namespace N179
theorem DD:DOk Tryz.prog (Go.Ab.DD [(238,dP D_zuf)]):=ya y6v.e <| yb _
theorem dn:type_of% (@D_zuf.eq_1):=by and_intros<;>intros<;>rfl
theorem den (a0:Character)  : Den Tryz.prog 179 [.agg (ym a0)] (.bool (zrd a0)):=by
 generalize hR:zrd a0=r;unfold zrd at hR;refine di Tryz.func179 Tryz.ntmps179 Tryz.results179 ?_;intro c hL hc hk;obtain⟨hL0,_⟩:=hL;have hw0:bwCharacter a0:=yv a0 hL0;clear hL0;simp only[pars,Nat.zero_add];iterate 2 refine rS ?_
 refine AWP.ret ?_;subst hR;exact es
end N179
def D_zrd : DF
 | [x0]=>some (.bool (zrd (rdG ye x0)),false,[wG ym ye x0])
 | _=>none
theorem y3q:OkD Tryz.prog 179 D_zrd:=by unfold D_zrd;exact dk N179.den
def zv (a0:Int):(Int×Int×Int):=
 (bif (a0 == 2)then(10,10,15)else(bif (a0 == 4)then(5,15,20)else(bif (a0 == 5)then(20,20,25)else(bif (a0 == 6)then(5,5,20)else(bif (a0 == 7)then(2,3,10)else(bif (a0 == 8)then(5,5,30)else(0,0,0)))))))
namespace N191
theorem DD:DOk Tryz.prog (Go.Ab.DD []):=yb _
theorem den (a0:Int)  : Den Tryz.prog 191 [.int .i64 a0] (.tup [.int .i64 ((zv a0).1),.int .i64 ((zv a0).2.1),.int .i64 ((zv a0).2.2)]):=by
 generalize hR:zv a0=r;unfold zv at hR;refine di Tryz.func191 Tryz.ntmps191 Tryz.results191 ?_;intro c hL hc hk;clear hL;simp only[pars,Nat.zero_add];iterate 3 refine rS ?_
 refine AWP.cond rfl (fun hb => ?_) (fun hb => ?_)
 ·replace hR:=ct hR
  refine rS ?_;refine AWP.ret ?_;subst hR;exact es
 ·replace hR:=cf hR
  refine rS ?_;refine AWP.cond rfl (fun hb => ?_) (fun hb => ?_)
  ·replace hR:=ct hR
   refine rS ?_;refine AWP.ret ?_;subst hR;exact es
  ·replace hR:=cf hR
   refine rS ?_;refine AWP.cond rfl (fun hb => ?_) (fun hb => ?_)
   ·replace hR:=ct hR
    refine rS ?_;refine AWP.ret ?_;subst hR;exact es
   ·replace hR:=cf hR
    refine rS ?_;refine AWP.cond rfl (fun hb => ?_) (fun hb => ?_)
    ·replace hR:=ct hR
     refine rS ?_;refine AWP.ret ?_;subst hR;exact es
    ·replace hR:=cf hR
     refine rS ?_;refine AWP.cond rfl (fun hb => ?_) (fun hb => ?_)
     ·replace hR:=ct hR
      refine rS ?_;refine AWP.ret ?_;subst hR;exact es
     ·replace hR:=cf hR
      refine rS ?_;refine AWP.cond rfl (fun hb => ?_) (fun hb => ?_)
      ·replace hR:=ct hR
       refine rS ?_;refine AWP.ret ?_;subst hR;exact es
      ·replace hR:=cf hR
       refine rS ?_;refine AWP.ret ?_;subst hR;exact es
end N191
def D_zv : DF
 | [x0]=>some (.tup [.int .i64 ((zv (rdI x0)).1),.int .i64 ((zv (rdI x0)).2.1),.int .i64 ((zv (rdI x0)).2.2)],false,[wI .i64 x0])
 | _=>none
theorem ynt:OkD Tryz.prog 191 D_zv:=by unfold D_zv;exact dk N191.den
end Go.Ab
