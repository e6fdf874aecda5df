/- A part of a proof: walks of functions and lemmas of our own. No conditions. -/
import Derived.Test.YthadgghdkkapaaaGreatDoorMAl
import Derived.Test.YthadgghdkkapaaaGreatDoorMAo
set_option linter.unusedSectionVars false
set_option linter.unusedVariables false
set_option linter.unusedSimpArgs false
set_option maxHeartbeats 1000000
namespace Go.Ab
open Go Go.Proofs
def zu (a0:Int):Int:=
 (IntKind.wrap .i64 ((a0.tmod 360)+360)).tmod 360
namespace N214
theorem DD:DOk Tryz.prog (Go.Ab.DD []):=yc _
theorem den (a0:Int)  : Den Tryz.prog 214 [.int .i64 a0] (.int .i64 (zu a0)):=by
 generalize hR:zu a0=r;unfold zu at hR;refine di Tryz.func214 Tryz.ntmps214 Tryz.results214 ?_;intro c hL hc hk;clear hL;simp only[pars,Nat.zero_add];iterate 2 refine rS ?_
 refine AWP.ret ?_;subst hR;exact es
end N214
def D_zu : DF
 | [x0]=>some (.int .i64 (zu (rdI x0)),false,[wI .i64 x0])
 | _=>none
theorem yzm:OkD Tryz.prog 214 D_zu:=by unfold D_zu;exact dk N214.den
def zid (a0:Int):Int:=
 ([0,17452,34899,52336,69756,87156,104528,121869,139173,156434,173648,190809,207912,224951,241922,258819,275637,292372,309017,325568,342020,358368,374607,390731,406737,422618,438371,453990,469472,484810,500000,515038,529919,544639,559193,573576,587785,601815,615661,629320,642788,656059,669131,681998,694658,707107,719340,731354,743145,754710,766044,777146,788011,798636,809017,819152,829038,838671,848048,857167,866025,874620,882948,891007,898794,906308,913545,920505,927184,933580,939693,945519,951057,956305,961262,965926,970296,974370,978148,981627,984808,987688,990268,992546,994522,996195,997564,998630,999391,999848,1000000]:List Int).getD ((a0).toNat) 0
namespace N215
theorem DD:DOk Tryz.prog (Go.Ab.DD []):=yc _
theorem o0 {p:Prop} (h:p:=by(first|(refine⟨hp0,?_⟩;show a0<91;omega)|omega);first|done|fail):p:=h
set_option maxHeartbeats 1000000 in
set_option maxRecDepth 20000 in
theorem den (a0:Int) (hp0:0<=a0) (hp1:a0<=90):Den Tryz.prog 215 [.int .i64 a0] (.int .i64 (zid a0)):=by
 generalize hR:zid a0=r;unfold zid at hR;refine di Tryz.func215 Tryz.ntmps215 Tryz.results215 ?_;intro c hL hc hk;clear hL;simp only[pars,Nat.zero_add];iterate 2 refine rS ?_
 refine AWP.ret ?_;subst hR;exact es
end N215
def D_zid : DF
 | [x0]=>some (.int .i64 (zid (rdI x0)),false,[wI .i64 x0,0<=(rdI x0),(rdI x0)<=90])
 | _=>none
theorem ymp:OkD Tryz.prog 215 D_zid:=by unfold D_zid;exact dk N215.den
theorem y5q (a:Int):0<=zu a/\zu a<360:=by
 unfold zu;have h1 : -360<a.tmod 360:=Int.lt_tmod_of_pos a (by decide);have h2:a.tmod 360<360:=Int.tmod_lt_of_pos a (by decide);rw[show IntKind.wrap .i64 (a.tmod 360+360)=a.tmod 360+360 by rw[IntKind.wrap_i64];omega];exact⟨Int.tmod_nonneg _ (by omega),Int.tmod_lt_of_pos _ (by decide)⟩
theorem yxh {a:Int} (h0:0<=a) (h1:a<360):zu a=a:=by
 unfold zu;rw[Int.tmod_eq_of_lt h0 h1,show IntKind.wrap .i64 (a+360)=a+360 by rw[IntKind.wrap_i64];omega];rw[Int.tmod_eq_emod_of_nonneg (by omega)];omega
def yqi (a:Int):Int:=bif decide (90<zu a)then zid (IntKind.wrap .i64 (180-zu a))else zid (zu a)
def yyp (a:Int):Int:=bif decide (180<=zu a)then IntKind.wrap .i64 (0-yqi (IntKind.wrap .i64 (zu a-180)))else yqi a
namespace N153
namespace A
theorem DD:DOk Tryz.prog (Go.Ab.DD [(214,dP D_zu),(215,dP D_zid)]):=ya yzm.e <| ya ymp.e <| yc _
theorem dn:type_of% (And.intro @D_zu.eq_1 <| @D_zid.eq_1):=by and_intros<;>intros<;>rfl
theorem o0 {p:Prop} (h:p:=by(first|(simp only[rdI,wI];(repeat' apply And.intro)<;>first|trivial|omega|(rw[IntKind.wrap_i64];omega)));first|done|fail):p:=h
theorem den (a0:Int) (hp0:0<=a0) (hp1:a0<180):Den Tryz.prog 153 [.int .i64 a0] (.int .i64 (yqi a0)):=by
 generalize hR:yqi a0=r;unfold yqi at hR;have hT:=yxh hp0 (by omega);refine di Tryz.func153 Tryz.ntmps153 Tryz.results153 ?_;intro c hL hc hk;clear hL;simp only[pars,Nat.zero_add];iterate 3 refine rS ?_
 refine AWP.cond rfl (fun hb => ?_) (fun hb => ?_)
 ·exfalso;have h9:=of_decide_eq_true hb;omega
 ·refine rS ?_
  refine AWP.cond rfl (fun hb => ?_) (fun hb => ?_)
  ·replace hR:=ct hR
   have h9:=of_decide_eq_true hb;refine rS ?_;refine AWP.ret ?_;subst hR;exact es
  ·replace hR:=cf hR
   have h9:=of_decide_eq_false hb;refine rS ?_;refine AWP.ret ?_;subst hR;exact es
end A
def D_sineA : DF
 | [x0]=>some (.int .i64 (yqi (rdI x0)),false,[wI .i64 x0,0<=rdI x0,rdI x0<180])
 | _=>none
theorem y5p:OkD Tryz.prog 153 D_sineA:=by unfold D_sineA;exact dk A.den
theorem DD:DOk Tryz.prog (Go.Ab.DD [(153,dP D_sineA),(214,dP D_zu),(215,dP D_zid)]):=ya y5p.e <| ya yzm.e <| ya ymp.e <| yc _
theorem dn:type_of% (And.intro @D_sineA.eq_1 <| And.intro @D_zu.eq_1 <| @D_zid.eq_1):=by and_intros<;>intros<;>rfl
theorem o0 {p:Prop} (h:p:=by(first|(simp only[rdI,wI];(repeat' apply And.intro)<;>first|trivial|omega|(rw[IntKind.wrap_i64];omega)));first|done|fail):p:=h
theorem den (a0:Int):Den Tryz.prog 153 [.int .i64 a0] (.int .i64 (yyp a0)):=by
 generalize hR:yyp a0=r;unfold yyp at hR;unfold yqi at hR;have hT:=y5q a0;refine di Tryz.func153 Tryz.ntmps153 Tryz.results153 ?_;intro c hL hc hk;clear hL;simp only[pars,Nat.zero_add];iterate 3 refine rS ?_
 refine AWP.cond rfl (fun hb => ?_) (fun hb => ?_)
 ·replace hR:=ct hR
  have h9:=of_decide_eq_true hb;refine rS ?_;refine AWP.ret ?_;subst hR;unfold yqi;exact es
 ·replace hR:=cf hR
  have h8:=of_decide_eq_false hb;refine rS ?_;refine AWP.cond rfl (fun hb => ?_) (fun hb => ?_)
  ·replace hR:=ct hR
   have h9:=of_decide_eq_true hb;refine rS ?_;refine AWP.ret ?_;subst hR;exact es
  ·replace hR:=cf hR
   have h9:=of_decide_eq_false hb;refine rS ?_;refine AWP.ret ?_;subst hR;exact es
end N153
def zjd (a0:Int):Int:=yyp a0
theorem y1y (a0:Int)  : Den Tryz.prog 153 [.int .i64 a0] (.int .i64 (zjd a0)):=by
 exact N153.den a0
def D_zjd : DF
 | [x0]=>some (.int .i64 (zjd (rdI x0)),false,[wI .i64 x0])
 | _=>none
theorem yfp:OkD Tryz.prog 153 D_zjd:=by
 intro xs r z ob h ho;unfold D_zjd at h;split at h
 ·simp only[Option.some.injEq,Prod.mk.injEq]at h
  obtain⟨rfl,rfl,rfl⟩:=h;obtain⟨h0,_⟩:=ho;exact Den.sim (y1y _ ) (yhb (yoh h0).1 <| trivial) (ylb (yoh h0).2 <| rfl) rfl
 ·cases h
def zdf (a0:Int):Int:=
 (zjd (IntKind.wrap .i64 ((zu a0)+90)))
namespace N154
theorem DD:DOk Tryz.prog (Go.Ab.DD [(153,dP D_zjd),(214,dP D_zu)]):=ya yfp.e <| ya yzm.e <| yc _
theorem dn:type_of% (And.intro @D_zjd.eq_1 <| @D_zu.eq_1):=by and_intros<;>intros<;>rfl
theorem den (a0:Int)  : Den Tryz.prog 154 [.int .i64 a0] (.int .i64 (zdf a0)):=by
 generalize hR:zdf a0=r;unfold zdf at hR;refine di Tryz.func154 Tryz.ntmps154 Tryz.results154 ?_;intro c hL hc hk;clear hL;simp only[pars,Nat.zero_add];iterate 2 refine rS ?_
 refine AWP.ret ?_;subst hR;exact es
end N154
def D_zdf : DF
 | [x0]=>some (.int .i64 (zdf (rdI x0)),false,[wI .i64 x0])
 | _=>none
theorem yqw:OkD Tryz.prog 154 D_zdf:=by unfold D_zdf;exact dk N154.den
def zkc (a0:Int) (a1:Point) (a2:Point):Int:=
 IntKind.wrap .i64 ((IntKind.wrap .i64 ((IntKind.wrap .i64 (a1.X-a2.X)) * (zjd a0)))+(IntKind.wrap .i64 ((IntKind.wrap .i64 (a1.Y-a2.Y)) * (zdf a0))))
namespace N152
theorem DD:DOk Tryz.prog (Go.Ab.DD [(153,dP D_zjd),(154,dP D_zdf)]):=ya yfp.e <| ya yqw.e <| yc _
theorem dn:type_of% (And.intro @D_zjd.eq_1 <| @D_zdf.eq_1):=by and_intros<;>intros<;>rfl
theorem den (a0:Int) (a1:Point) (a2:Point)  : Den Tryz.prog 152 [.int .i64 a0,.ep (ePoint a1),.ep (ePoint a2)] (.int .i64 (zkc a0 a1 a2)):=by
 generalize hR:zkc a0 a1 a2=r;unfold zkc at hR;refine di Tryz.func152 Tryz.ntmps152 Tryz.results152 ?_;intro c hL hc hk;clear hL;simp only[pars,Nat.zero_add];refine rS ?_;refine rD 16 ?_;refine AWP.ret ?_;subst hR;exact es
end N152
def D_zkc : DF
 | [x0,x1,x2]=>some (.int .i64 (zkc (rdI x0) (rdP yw x1) (rdP yw x2)),false,[wI .i64 x0,wP ePoint yw x1,wP ePoint yw x2])
 | _=>none
theorem y4w:OkD Tryz.prog 152 D_zkc:=by unfold D_zkc;exact dk N152.den
def za (a0:Int) (a1:Int) (a2:Int):Bool:=
 (decide (a1<=a0) && decide (a0<=a2))
namespace N101
theorem DD:DOk Tryz.prog (Go.Ab.DD []):=yc _
theorem den (a0:Int) (a1:Int) (a2:Int)  : Den Tryz.prog 101 [.int .i64 a0,.int .i64 a1,.int .i64 a2] (.bool (za a0 a1 a2)):=by
 generalize hR:za a0 a1 a2=r;unfold za at hR;refine di Tryz.func101 Tryz.ntmps101 Tryz.results101 ?_;intro c hL hc hk;clear hL;simp only[pars,Nat.zero_add];iterate 2 refine rS ?_
 refine AWP.ret ?_;subst hR;exact es
end N101
def D_za : DF
 | [x0,x1,x2]=>some (.bool (za (rdI x0) (rdI x1) (rdI x2)),false,[wI .i64 x0,wI .i64 x1,wI .i64 x2])
 | _=>none
theorem y9b:OkD Tryz.prog 101 D_za:=by unfold D_za;exact dk N101.den
def zyb (a0:Point):Bool:=
 ((za a0.X 0 200000) && (za a0.Y 0 200000))
namespace N50
theorem DD:DOk Tryz.prog (Go.Ab.DD [(101,dP D_za)]):=ya y9b.e <| yc _
theorem dn:type_of% (@D_za.eq_1):=by and_intros<;>intros<;>rfl
theorem ol:type_of% (@za.eq_1):=@za.eq_1
theorem den (a0:Point)  : Den Tryz.prog 50 [.agg (ePoint a0)] (.bool (zyb a0)):=by
 generalize hR:zyb a0=r;unfold zyb at hR;refine di Tryz.func50 Tryz.ntmps50 Tryz.results50 ?_;intro c hL hc hk;clear hL;simp only[pars,Nat.zero_add];iterate 2 refine rS ?_
 refine AWP.ret ?_;subst hR;exact es
end N50
def D_zyb : DF
 | [x0]=>some (.bool (zyb (rdG yw x0)),false,[wG ePoint yw x0])
 | _=>none
theorem yrj:OkD Tryz.prog 50 D_zyb:=by unfold D_zyb;exact dk N50.den
def yjg (a0:(List Point)) (i1:Nat) (s1:Unit):Except (Bool) (Unit):=
 (bif (!(zyb (a0.getD i1 default)))then .error false else .ok ())
def zbb (a0:(List Point)):Bool:=
 (match yf (yjg a0) (a0.length-0) 0 ()with|.error e=>e|.ok s1=>true)
namespace N49
theorem DD:DOk Tryz.prog (Go.Ab.DD [(50,dP D_zyb)]):=ya yrj.e <| yc _
theorem dn:type_of% (@D_zyb.eq_1):=by and_intros<;>intros<;>rfl
theorem den (a0:(List Point))  : Den Tryz.prog 49 [encL 2 ePoint a0] (.bool (zbb a0)):=by
 generalize hR:zbb a0=r;unfold zbb at hR;refine di Tryz.func49 Tryz.ntmps49 Tryz.results49 ?_;intro c hL hc hk;obtain⟨hL0,_⟩:=hL;have hw0:a0.length<9223372036854775808:=Nat.lt_succ_of_le (ye hL0).1;clear hL0;simp only[pars,Nat.zero_add];iterate 2 refine rS ?_
 refine AWP.block ?_;generalize hz1:yf (yjg a0) (a0.length-0) 0 ()=z1 at hR;refine AWP.range (yjg a0) (fun i1 s1=>⟨[(5,encL 2 ePoint a0),(6,.int .i64 (a0.length:Int)),(7,.int .i64 (i1:Int))],[]⟩) (fun i1 s1=>True) (a0.length) 0 () [] hz1 ot wt sm ?_;clear hz1;intro i1 s1 hi1 hW1 hz1;refine rS ?_;refine AWP.seq ?_;refine AWP.cond rfl (fun hb => ?_) (fun hb => ?_)
 ·have hlt1:i1<a0.length:=ot
  rw[yk hlt1]at hz1;simp only[yjg]at hz1;iterate 2 refine rS ?_
  refine AWP.cond rfl (fun hb => ?_) (fun hb => ?_)
  ·simp only[hb,cond_true]at hz1
   refine rS ?_;refine AWP.ret ?_;subst hz1;dsimp only at hR;subst hR;exact es
  ·simp only[hb,cond_false]at hz1
   refine rS ?_;exact⟨_,[],hlt1,wt,hz1,sm⟩
 ·obtain rfl:i1=a0.length:=ot
  rw[yj (Nat.le_refl _)]at hz1;subst hz1;dsimp only at hR;refine AWP.exit ?_;refine yb ?_;refine rS ?_;refine AWP.ret ?_;subst hR;exact es
end N49
def D_zbb : DF
 | [x0]=>some (.bool (zbb (rdL yw x0)),false,[wL 2 ePoint yw x0])
 | _=>none
theorem y5n:OkD Tryz.prog 49 D_zbb:=by unfold D_zbb;exact dk N49.den
def yxd (a0:Point) (a1:Point) (i1:Nat) (s1:Int×Int):Except (Int) (Int×Int):=
 (bif decide (s1.2<(zkc (i1:Int) a1 a0))then .ok ((i1:Int),(zkc (i1:Int) a1 a0))else .ok (s1.1,s1.2))
def zcb (a0:Point) (a1:Point):Int:=
 (bif ((!(zbb [a0,a1])) || (a0.X == a1.X && a0.Y == a1.Y))then 0 else(match yf (yxd a0 a1) (360-0) 0 (0,(zkc 0 a1 a0))with|.error e=>e|.ok s1=>s1.1))
namespace N103
theorem DD:DOk Tryz.prog (Go.Ab.DD [(152,dP D_zkc),(49,dP D_zbb)]):=ya y4w.e <| ya y5n.e <| yc _
theorem dn:type_of% (And.intro @D_zkc.eq_1 <| @D_zbb.eq_1):=by and_intros<;>intros<;>rfl
theorem lx {p:Prop} (h:p:=by(exact lxx);first|done|fail):p:=h
set_option maxHeartbeats 1000000 in
set_option maxRecDepth 20000 in
theorem den (a0:Point) (a1:Point)  : Den Tryz.prog 103 [.agg (ePoint a0),.agg (ePoint a1)] (.int .i64 (zcb a0 a1)):=by
 generalize hR:zcb a0 a1=r;unfold zcb at hR;refine di Tryz.func103 Tryz.ntmps103 Tryz.results103 ?_;intro c hL hc hk;clear hL;simp only[pars,Nat.zero_add];iterate 2 refine rS ?_
 refine AWP.cond rfl (fun hb => ?_) (fun hb => ?_)
 ·replace hR:=ct hR
  refine rS ?_;refine AWP.ret ?_;subst hR;exact es
 ·replace hR:=cf hR
  iterate 3 refine rS ?_
  refine AWP.block ?_;generalize hz1:yf (yxd a0 a1) (360-0) 0 (0,(zkc 0 a1 a0))=z1 at hR;refine AWP.range (yxd a0 a1) (fun i1 s1=>⟨[(5,.fn 152 0 [.ptr 0 0,.ptr 1 0]),(6,.int .i64 s1.1),(7,.int .i64 s1.2),(23,.int .i64 (i1:Int))],[.box [.int .i64 a1.X,.int .i64 a1.Y],.box [.int .i64 a0.X,.int .i64 a0.Y]]⟩) (fun i1 s1=>True) (360) 0 (0,(zkc 0 a1 a0)) [1,0] hz1 ot wt sm ?_;clear hz1;intro i1 s1 hi1 hW1 hz1;refine rS ?_;refine AWP.seq ?_;refine AWP.cond rfl (fun hb => ?_) (fun hb => ?_)
  ·have hlt1:i1<360:=ot
   rw[yk hlt1]at hz1;simp only[yxd]at hz1;iterate 3 refine rS ?_
   refine AWP.cond rfl (fun hb => ?_) (fun hb => ?_)
   ·simp only[hb,cond_true]at hz1
    iterate 2 refine rS ?_
    exact⟨_,[0,1],hlt1,wt,hz1,sm⟩
   ·simp only[hb,cond_false]at hz1
    refine rS ?_;exact⟨_,[0,1],hlt1,wt,hz1,sm⟩
  ·obtain rfl:i1=360:=ot
   rw[yj (Nat.le_refl _)]at hz1;subst hz1;dsimp only at hR;refine AWP.exit ?_;refine yb ?_;refine rS ?_;refine AWP.ret ?_;subst hR;exact es
end N103
def D_zcb : DF
 | [x0,x1]=>some (.int .i64 (zcb (rdG yw x0) (rdG yw x1)),false,[wG ePoint yw x0,wG ePoint yw x1])
 | _=>none
theorem ywu:OkD Tryz.prog 103 D_zcb:=by unfold D_zcb;exact dk N103.den
def y7n (a0:Int) (s1:Int×Int):Except (Sum (Int) (Int×Int)) (Int×Int):=
 (bif decide (s1.1<s1.2)then(bif decide ((IntKind.wrap .i64 ((IntKind.wrap .i64 ((IntKind.wrap .i64 ((IntKind.wrap .i64 (s1.1+s1.2))+1)).tdiv 2)) * (IntKind.wrap .i64 ((IntKind.wrap .i64 ((IntKind.wrap .i64 (s1.1+s1.2))+1)).tdiv 2))))<=a0)then .ok (IntKind.wrap .i64 ((IntKind.wrap .i64 ((IntKind.wrap .i64 (s1.1+s1.2))+1)).tdiv 2),s1.2)else .ok (s1.1,IntKind.wrap .i64 ((IntKind.wrap .i64 ((IntKind.wrap .i64 ((IntKind.wrap .i64 (s1.1+s1.2))+1)).tdiv 2))-1)))else .error (.inr (s1.1,s1.2)))
def zrc (a0:Int):Int:=
 (bif decide (a0<0)then 0 else(match yfc (y7n a0) ((((3037000499:Int)-(0:Int)).toNat)+1) (0,3037000499)with|.error (.inl e)=>e|.error (.inr s1)=>s1.1|.ok _=>default))
namespace N161
theorem DD:DOk Tryz.prog (Go.Ab.DD []):=yc _
theorem den (a0:Int)  : Den Tryz.prog 161 [.int .i64 a0] (.int .i64 (zrc a0)):=by
 generalize hR:zrc a0=r;unfold zrc at hR;refine di Tryz.func161 Tryz.ntmps161 Tryz.results161 ?_;intro c hL hc hk;clear hL;simp only[pars,Nat.zero_add];iterate 2 refine rS ?_
 refine AWP.cond rfl (fun hb => ?_) (fun hb => ?_)
 ·replace hR:=ct hR
  refine rS ?_;refine AWP.ret ?_;subst hR;exact es
 ·replace hR:=cf hR
  refine rS ?_;refine AWP.seq ?_;refine AWP.block ?_;generalize hz1:yfc (y7n a0) ((((3037000499:Int)-(0:Int)).toNat)+1) (0,3037000499)=z1 at hR;refine AWP.whileW (y7n a0) (fun s1=>⟨[(0,.int .i64 a0),(3,.int .i64 s1.1),(4,.int .i64 s1.2)],[]⟩) (fun s1=>0<=s1.1/\s1.1<=s1.2/\s1.2<=3037000499) (fun s1=>(s1.2-s1.1).toNat) ((((3037000499:Int)-(0:Int)).toNat)+1) (0,3037000499) [] hz1 m0 (by(refine⟨?_,?_,?_⟩<;>decide)) sm ?_;clear hz1;intro s1 k1 hW1 hm1 hz1;simp only[y7n]at hz1;refine rS ?_;refine AWP.cond rfl (fun hb => ?_) (fun hb => ?_)
  ·simp only[hb,cond_true]at hz1
   iterate 2 refine rS ?_
   refine AWP.cond rfl (fun hb => ?_) (fun hb => ?_)
   ·simp only[hb,cond_true]at hz1
    refine rS ?_;exact⟨_,[],by(have hl:s1.1<s1.2:=of_decide_eq_true (by assumption);obtain⟨m1,m2,m3⟩:=ywd hW1.1 hl hW1.2.2;(try simp only[]);first|omega|(rw[m3];omega)|(refine⟨?_,?_,?_⟩<;>(try simp only[])<;>first|omega|(rw[m3];omega))),by(have hl:s1.1<s1.2:=of_decide_eq_true (by assumption);obtain⟨m1,m2,m3⟩:=ywd hW1.1 hl hW1.2.2;(try simp only[]);first|omega|(rw[m3];omega)|(refine⟨?_,?_,?_⟩<;>(try simp only[])<;>first|omega|(rw[m3];omega))),hz1,sm⟩
   ·simp only[hb,cond_false]at hz1
    refine rS ?_;exact⟨_,[],by(have hl:s1.1<s1.2:=of_decide_eq_true (by assumption);obtain⟨m1,m2,m3⟩:=ywd hW1.1 hl hW1.2.2;(try simp only[]);first|omega|(rw[m3];omega)|(refine⟨?_,?_,?_⟩<;>(try simp only[])<;>first|omega|(rw[m3];omega))),by(have hl:s1.1<s1.2:=of_decide_eq_true (by assumption);obtain⟨m1,m2,m3⟩:=ywd hW1.1 hl hW1.2.2;(try simp only[]);first|omega|(rw[m3];omega)|(refine⟨?_,?_,?_⟩<;>(try simp only[])<;>first|omega|(rw[m3];omega))),hz1,sm⟩
  ·simp only[hb,cond_false]at hz1
   refine AWP.exit ?_;refine yb ?_;subst hz1;dsimp only at hR;refine rS ?_;refine AWP.ret ?_;subst hR;exact es
end N161
def D_zrc : DF
 | [x0]=>some (.int .i64 (zrc (rdI x0)),false,[wI .i64 x0])
 | _=>none
theorem y3t:OkD Tryz.prog 161 D_zrc:=by unfold D_zrc;exact dk N161.den
def zpf (a0:Point) (a1:Point):Int:=
 IntKind.wrap .i64 ((IntKind.wrap .i64 ((IntKind.wrap .i64 (a0.X-a1.X)) * (IntKind.wrap .i64 (a0.X-a1.X))))+(IntKind.wrap .i64 ((IntKind.wrap .i64 (a0.Y-a1.Y)) * (IntKind.wrap .i64 (a0.Y-a1.Y)))))
namespace N162
theorem DD:DOk Tryz.prog (Go.Ab.DD []):=yc _
theorem den (a0:Point) (a1:Point)  : Den Tryz.prog 162 [.agg (ePoint a0),.agg (ePoint a1)] (.int .i64 (zpf a0 a1)):=by
 generalize hR:zpf a0 a1=r;unfold zpf at hR;refine di Tryz.func162 Tryz.ntmps162 Tryz.results162 ?_;intro c hL hc hk;clear hL;simp only[pars,Nat.zero_add];iterate 2 refine rS ?_
 refine AWP.ret ?_;subst hR;exact es
end N162
def D_zpf : DF
 | [x0,x1]=>some (.int .i64 (zpf (rdG yw x0) (rdG yw x1)),false,[wG ePoint yw x0,wG ePoint yw x1])
 | _=>none
theorem yav:OkD Tryz.prog 162 D_zpf:=by unfold D_zpf;exact dk N162.den
def zne (a0:Point) (a1:Point):Int:=
 (bif (!(zbb [a0,a1]))then 0 else(zrc (zpf a0 a1)))
namespace N108
theorem DD:DOk Tryz.prog (Go.Ab.DD [(161,dP D_zrc),(162,dP D_zpf),(49,dP D_zbb)]):=ya y3t.e <| ya yav.e <| ya y5n.e <| yc _
theorem dn:type_of% (And.intro @D_zrc.eq_1 <| And.intro @D_zpf.eq_1 <| @D_zbb.eq_1):=by and_intros<;>intros<;>rfl
theorem lx {p:Prop} (h:p:=by(exact lxx);first|done|fail):p:=h
theorem den (a0:Point) (a1:Point)  : Den Tryz.prog 108 [.agg (ePoint a0),.agg (ePoint a1)] (.int .i64 (zne a0 a1)):=by
 generalize hR:zne a0 a1=r;unfold zne at hR;refine di Tryz.func108 Tryz.ntmps108 Tryz.results108 ?_;intro c hL hc hk;clear hL;simp only[pars,Nat.zero_add];iterate 2 refine rS ?_
 refine AWP.cond rfl (fun hb => ?_) (fun hb => ?_)
 ·replace hR:=ct hR
  refine rS ?_;refine AWP.ret ?_;subst hR;exact es
 ·replace hR:=cf hR
  refine rS ?_;refine AWP.ret ?_;subst hR;exact es
end N108
def D_zne : DF
 | [x0,x1]=>some (.int .i64 (zne (rdG yw x0) (rdG yw x1)),false,[wG ePoint yw x0,wG ePoint yw x1])
 | _=>none
theorem ymw:OkD Tryz.prog 108 D_zne:=by unfold D_zne;exact dk N108.den
def zdd (a0:Int):Bool:=
 (za a0 0 359)
namespace N151
theorem DD:DOk Tryz.prog (Go.Ab.DD [(101,dP D_za)]):=ya y9b.e <| yc _
theorem dn:type_of% (@D_za.eq_1):=by and_intros<;>intros<;>rfl
theorem ol:type_of% (@za.eq_1):=@za.eq_1
theorem den (a0:Int)  : Den Tryz.prog 151 [.int .i64 a0] (.bool (zdd a0)):=by
 generalize hR:zdd a0=r;unfold zdd at hR;refine di Tryz.func151 Tryz.ntmps151 Tryz.results151 ?_;intro c hL hc hk;clear hL;simp only[pars,Nat.zero_add];iterate 2 refine rS ?_
 refine AWP.ret ?_;subst hR;exact es
end N151
def D_zdd : DF
 | [x0]=>some (.bool (zdd (rdI x0)),false,[wI .i64 x0])
 | _=>none
theorem ymo:OkD Tryz.prog 151 D_zdd:=by unfold D_zdd;exact dk N151.den
def zde (a0:Int):(Int×Int):=
 (bif (!(zdd a0))then(0,2)else(bif (decide (315<=a0) || decide (a0<45))then(3,0)else(bif decide (a0<135)then(4,0)else(bif decide (a0<225)then(5,0)else(6,0)))))
namespace N102
theorem DD:DOk Tryz.prog (Go.Ab.DD [(151,dP D_zdd)]):=ya ymo.e <| yc _
theorem dn:type_of% (@D_zdd.eq_1):=by and_intros<;>intros<;>rfl
theorem den (a0:Int)  : Den Tryz.prog 102 [.int .i64 a0] (.tup [.int .i64 ((zde a0).1),.int .i64 ((zde a0).2)]):=by
 generalize hR:zde a0=r;unfold zde at hR;refine di Tryz.func102 Tryz.ntmps102 Tryz.results102 ?_;intro c hL hc hk;clear hL;simp only[pars,Nat.zero_add];iterate 2 refine rS ?_
 refine AWP.cond rfl (fun hb => ?_) (fun hb => ?_)
 ·replace hR:=ct hR
  refine rS ?_;refine AWP.ret ?_;subst hR;exact es
 ·replace hR:=cf hR
  refine rS ?_;refine AWP.cond rfl (fun hb => ?_) (fun hb => ?_)
  ·replace hR:=ct hR
   refine rS ?_;refine AWP.ret ?_;subst hR;exact es
  ·replace hR:=cf hR
   refine rS ?_;refine AWP.cond rfl (fun hb => ?_) (fun hb => ?_)
   ·replace hR:=ct hR
    refine rS ?_;refine AWP.ret ?_;subst hR;exact es
   ·replace hR:=cf hR
    refine rS ?_;refine AWP.cond rfl (fun hb => ?_) (fun hb => ?_)
    ·replace hR:=ct hR
     refine rS ?_;refine AWP.ret ?_;subst hR;exact es
    ·replace hR:=cf hR
     refine rS ?_;refine AWP.ret ?_;subst hR;exact es
end N102
def D_zde : DF
 | [x0]=>some (.tup [.int .i64 ((zde (rdI x0)).1),.int .i64 ((zde (rdI x0)).2)],false,[wI .i64 x0])
 | _=>none
theorem ycw:OkD Tryz.prog 102 D_zde:=by unfold D_zde;exact dk N102.den
def zoe (a0:Danger) (a1:Point):Int:=
 (zde (zcb a0.At a1)).1
namespace N51
theorem DD:DOk Tryz.prog (Go.Ab.DD [(102,dP D_zde),(103,dP D_zcb)]):=ya ycw.e <| ya ywu.e <| yc _
theorem dn:type_of% (And.intro @D_zde.eq_1 <| @D_zcb.eq_1):=by and_intros<;>intros<;>rfl
theorem den (a0:Danger) (a1:Point)  : Den Tryz.prog 51 [.agg (eDanger a0),.agg (ePoint a1)] (.int .i64 (zoe a0 a1)):=by
 generalize hR:zoe a0 a1=r;unfold zoe at hR;refine di Tryz.func51 Tryz.ntmps51 Tryz.results51 ?_;intro c hL hc hk;obtain⟨hL0,hL1,_⟩:=hL;have hw0:bwDanger a0:=y8 a0 hL0;clear hL0 hL1;simp only[pars,Nat.zero_add];iterate 3 refine rS ?_
 refine AWP.ret ?_;subst hR;exact es
end N51
def D_zoe : DF
 | [x0,x1]=>some (.int .i64 (zoe (rdG yy x0) (rdG yw x1)),false,[wG eDanger yy x0,wG ePoint yw x1])
 | _=>none
theorem ykw:OkD Tryz.prog 51 D_zoe:=by unfold D_zoe;exact dk N51.den
def zpe (a0:Danger) (a1:Aid) (a2:Int):Bool:=
 (((za a1.Mark.Kind 3 6) && (za (zne a0.At a1.At) a0.Radius (IntKind.wrap .i64 (a0.Radius+a2)))) && (a1.Mark.Kind == (zoe a0 a1.At)))
namespace N57
theorem DD:DOk Tryz.prog (Go.Ab.DD [(101,dP D_za),(108,dP D_zne),(51,dP D_zoe)]):=ya y9b.e <| ya ymw.e <| ya ykw.e <| yc _
theorem dn:type_of% (And.intro @D_za.eq_1 <| And.intro @D_zne.eq_1 <| @D_zoe.eq_1):=by and_intros<;>intros<;>rfl
theorem ol:type_of% (@za.eq_1):=@za.eq_1
theorem den (a0:Danger) (a1:Aid) (a2:Int)  : Den Tryz.prog 57 [.agg (eDanger a0),.agg (eAid a1),.int .i64 a2] (.bool (zpe a0 a1 a2)):=by
 generalize hR:zpe a0 a1 a2=r;unfold zpe at hR;refine di Tryz.func57 Tryz.ntmps57 Tryz.results57 ?_;intro c hL hc hk;obtain⟨hL0,hL1,hL2,_⟩:=hL;have hw0:bwDanger a0:=y8 a0 hL0;have hw1:bwAid a1:=y9 a1 hL1;clear hL0 hL1 hL2;simp only[pars,Nat.zero_add];refine rS ?_;refine rD 28 ?_;refine AWP.ret ?_;subst hR;exact es
end N57
def D_zpe : DF
 | [x0,x1,x2]=>some (.bool (zpe (rdG yy x0) (rdG dAid x1) (rdI x2)),false,[wG eDanger yy x0,wG eAid dAid x1,wI .i64 x2])
 | _=>none
theorem ytu:OkD Tryz.prog 57 D_zpe:=by unfold D_zpe;exact dk N57.den
def zw (a0:Int) (a1:Int):Bool:=
 decide (a0<=a1)
namespace N112
theorem DD:DOk Tryz.prog (Go.Ab.DD []):=yc _
theorem den (a0:Int) (a1:Int)  : Den Tryz.prog 112 [.int .i64 a0,.int .i64 a1] (.bool (zw a0 a1)):=by
 generalize hR:zw a0 a1=r;unfold zw at hR;refine di Tryz.func112 Tryz.ntmps112 Tryz.results112 ?_;intro c hL hc hk;clear hL;simp only[pars,Nat.zero_add];iterate 2 refine rS ?_
 refine AWP.ret ?_;subst hR;exact es
end N112
def D_zw : DF
 | [x0,x1]=>some (.bool (zw (rdI x0) (rdI x1)),false,[wI .i64 x0,wI .i64 x1])
 | _=>none
theorem yck:OkD Tryz.prog 112 D_zw:=by unfold D_zw;exact dk N112.den
def zef (a0:Int):Bool:=
 (decide (48<=a0) && decide (a0<=57))
namespace N150
theorem DD:DOk Tryz.prog (Go.Ab.DD []):=yc _
theorem den (a0:Int)  : Den Tryz.prog 150 [.int .u8 a0] (.bool (zef a0)):=by
 generalize hR:zef a0=r;unfold zef at hR;refine di Tryz.func150 Tryz.ntmps150 Tryz.results150 ?_;intro c hL hc hk;clear hL;simp only[pars,Nat.zero_add];iterate 2 refine rS ?_
 refine AWP.ret ?_;subst hR;exact es
end N150
def D_zef : DF
 | [x0]=>some (.bool (zef (rdI x0)),false,[wI .u8 x0])
 | _=>none
theorem yvt:OkD Tryz.prog 150 D_zef:=by unfold D_zef;exact dk N150.den
def yjp (a0:(List UInt8)) (i1:Nat) (s1:Unit):Except (Bool) (Unit):=
 (bif ((!(decide (97<=((a0.getD i1 0).toNat:Int)) && decide (((a0.getD i1 0).toNat:Int)<=122))) && (((i1:Int) == 0) || (!(zef ((a0.getD i1 0).toNat:Int)))))then .error false else .ok ())
def znb (a0:(List UInt8)):Bool:=
 (match yf (yjp a0) (a0.length-0) 0 ()with|.error e=>e|.ok s1=>((a0 != []) && (zw (a0.length:Int) 10)))
namespace N100
theorem DD:DOk Tryz.prog (Go.Ab.DD [(112,dP D_zw),(150,dP D_zef)]):=ya yck.e <| ya yvt.e <| yc _
theorem dn:type_of% (And.intro @D_zw.eq_1 <| @D_zef.eq_1):=by and_intros<;>intros<;>rfl
theorem den (a0:(List UInt8))  : Den Tryz.prog 100 [.str a0] (.bool (znb a0)):=by
 generalize hR:znb a0=r;unfold znb at hR;refine di Tryz.func100 Tryz.ntmps100 Tryz.results100 ?_;intro c hL hc hk;obtain⟨hL0,_⟩:=hL;have hw0:a0.length<9223372036854775808:=Nat.lt_succ_of_le hL0;clear hL0;simp only[pars,Nat.zero_add];iterate 2 refine rS ?_
 refine AWP.block ?_;generalize hz1:yf (yjp a0) (a0.length-0) 0 ()=z1 at hR;refine AWP.range (yjp a0) (fun i1 s1=>⟨[(0,.str a0),(3,.int .i64 (i1:Int))],[]⟩) (fun i1 s1=>True) (a0.length) 0 () [] hz1 ot wt sm ?_;clear hz1;intro i1 s1 hi1 hW1 hz1;refine rS ?_;refine AWP.cond rfl (fun hb => ?_) (fun hb => ?_)
 ·have hlt1:i1<a0.length:=ot
  rw[yk hlt1]at hz1;simp only[yjp]at hz1;iterate 2 refine rS ?_
  refine AWP.cond rfl (fun hb => ?_) (fun hb => ?_)
  ·simp only[hb,cond_true]at hz1
   refine rS ?_;refine AWP.ret ?_;subst hz1;dsimp only at hR;subst hR;exact es
  ·simp only[hb,cond_false]at hz1
   refine rS ?_;exact⟨_,[],hlt1,wt,hz1,sm⟩
 ·obtain rfl:i1=a0.length:=ot
  rw[yj (Nat.le_refl _)]at hz1;subst hz1;dsimp only at hR;refine AWP.exit ?_;refine yb ?_;refine rS ?_;refine AWP.ret ?_;subst hR;exact es
end N100
def D_znb : DF
 | [x0]=>some (.bool (znb (rdS x0)),false,[wS x0])
 | _=>none
theorem y5o:OkD Tryz.prog 100 D_znb:=by unfold D_znb;exact dk N100.den
def yjl (a0:(List Int)) (i1:Nat) (s1:Int):Except (Bool) (Int):=
 (bif (!(za (a0.getD i1 default) 1 9))then .error false else .ok (IntKind.wrap .i64 (s1+(a0.getD i1 default))))
def zzb (a0:(List Int)):Bool:=
 (match yf (yjl a0) (a0.length-0) 0 0 with|.error e=>e|.ok s1=>(((zw (a0.length:Int) 4) && decide (s1<=12)) && (!(zab a0 ([1]:List Int)))))
namespace N235
theorem DD:DOk Tryz.prog (Go.Ab.DD [(101,dP D_za),(112,dP D_zw),(236,dP D_zab)]):=ya y9b.e <| ya yck.e <| ya y4o.e <| yc _
theorem dn:type_of% (And.intro @D_za.eq_1 <| And.intro @D_zw.eq_1 <| @D_zab.eq_1):=by and_intros<;>intros<;>rfl
theorem ol:type_of% (@za.eq_1):=@za.eq_1
theorem den (a0:(List Int))  : Den Tryz.prog 235 [encL 1 yl a0] (.bool (zzb a0)):=by
 generalize hR:zzb a0=r;unfold zzb at hR;refine di Tryz.func235 Tryz.ntmps235 Tryz.results235 ?_;intro c hL hc hk;obtain⟨hL0,_⟩:=hL;have hw0:a0.length<9223372036854775808:=Nat.lt_succ_of_le (ye hL0).1;clear hL0;simp only[pars,Nat.zero_add];iterate 3 refine rS ?_
 refine AWP.block ?_;generalize hz1:yf (yjl a0) (a0.length-0) 0 0=z1 at hR;refine AWP.range (yjl a0) (fun i1 s1=>⟨[(0,encL 1 yl a0),(3,.int .i64 s1),(6,encL 1 yl a0),(7,.int .i64 (a0.length:Int)),(8,.int .i64 (i1:Int))],[]⟩) (fun i1 s1=>True) (a0.length) 0 0 [] hz1 ot wt sm ?_;clear hz1;intro i1 s1 hi1 hW1 hz1;refine rS ?_;refine AWP.seq ?_;refine AWP.cond rfl (fun hb => ?_) (fun hb => ?_)
 ·have hlt1:i1<a0.length:=ot
  rw[yk hlt1]at hz1;simp only[yjl]at hz1;iterate 2 refine rS ?_
  refine AWP.cond rfl (fun hb => ?_) (fun hb => ?_)
  ·simp only[hb,cond_true]at hz1
   refine rS ?_;refine AWP.ret ?_;subst hz1;dsimp only at hR;subst hR;exact es
  ·simp only[hb,cond_false]at hz1
   iterate 2 refine rS ?_
   exact⟨_,[],hlt1,wt,hz1,sm⟩
 ·obtain rfl:i1=a0.length:=ot
  rw[yj (Nat.le_refl _)]at hz1;subst hz1;dsimp only at hR;refine AWP.exit ?_;refine yb ?_;refine rS ?_;refine AWP.ret ?_;subst hR;exact es
end N235
def D_zzb : DF
 | [x0]=>some (.bool (zzb (rdL yab x0)),false,[wL 1 yl yab x0])
 | _=>none
theorem yvu:OkD Tryz.prog 235 D_zzb:=by unfold D_zzb;exact dk N235.den
def ydj (a0:(List UInt8)) (i1:Nat) (s1:Int):Except (Bool) (Int):=
 (bif decide ((zcd [87,82,71,89] ((a0.getD i1 0).toNat:Int))<=s1)then .error false else .ok (zcd [87,82,71,89] ((a0.getD i1 0).toNat:Int)))
def zob (a0:(List UInt8)):Bool:=
 (match yf (ydj a0) (a0.length-0) 0 (-1)with|.error e=>e|.ok s1=>(za (a0.length:Int) 1 3))
namespace N177
theorem DD:DOk Tryz.prog (Go.Ab.DD [(101,dP D_za),(234,dP D_zcd)]):=ya y9b.e <| ya yjv.e <| yc _
theorem dn:type_of% (And.intro @D_za.eq_1 <| @D_zcd.eq_1):=by and_intros<;>intros<;>rfl
theorem ol:type_of% (@za.eq_1):=@za.eq_1
theorem den (a0:(List UInt8))  : Den Tryz.prog 177 [.str a0] (.bool (zob a0)):=by
 generalize hR:zob a0=r;unfold zob at hR;refine di Tryz.func177 Tryz.ntmps177 Tryz.results177 ?_;intro c hL hc hk;obtain⟨hL0,_⟩:=hL;have hw0:a0.length<9223372036854775808:=Nat.lt_succ_of_le hL0;clear hL0;simp only[pars,Nat.zero_add];iterate 3 refine rS ?_
 refine AWP.block ?_;generalize hz1:yf (ydj a0) (a0.length-0) 0 (-1)=z1 at hR;refine AWP.range (ydj a0) (fun i1 s1=>⟨[(0,.str a0),(3,.int .i64 s1),(4,.int .i64 (i1:Int))],[]⟩) (fun i1 s1=>True) (a0.length) 0 (-1) [] hz1 ot wt sm ?_;clear hz1;intro i1 s1 hi1 hW1 hz1;refine rS ?_;refine AWP.cond rfl (fun hb => ?_) (fun hb => ?_)
 ·have hlt1:i1<a0.length:=ot
  rw[yk hlt1]at hz1;simp only[ydj]at hz1;iterate 2 refine rS ?_
  refine AWP.cond rfl (fun hb => ?_) (fun hb => ?_)
  ·simp only[hb,cond_true]at hz1
   refine rS ?_;refine AWP.ret ?_;subst hz1;dsimp only at hR;subst hR;exact es
  ·simp only[hb,cond_false]at hz1
   iterate 2 refine rS ?_
   exact⟨_,[],hlt1,wt,hz1,sm⟩
 ·obtain rfl:i1=a0.length:=ot
  rw[yj (Nat.le_refl _)]at hz1;subst hz1;dsimp only at hR;refine AWP.exit ?_;refine yb ?_;refine rS ?_;refine AWP.ret ?_;subst hR;exact es
end N177
def D_zob : DF
 | [x0]=>some (.bool (zob (rdS x0)),false,[wS x0])
 | _=>none
theorem ymu:OkD Tryz.prog 177 D_zob:=by unfold D_zob;exact dk N177.den
def zp (a0:(List UInt8)):(List UInt8):=
 (bif ((((a0.length:Int) != 1) || Op.bytesLess a0 [65]) || !(Op.bytesLess a0 [90] || a0 == [90]))then[]else([[46,45],[45,46,46,46],[45,46,45,46],[45,46,46],[46],[46,46,45,46],[45,45,46],[46,46,46,46],[46,46],[46,45,45,45],[45,46,45],[46,45,46,46],[45,45],[45,46],[45,45,45],[46,45,45,46],[45,45,46,45],[46,45,46],[46,46,46],[45],[46,46,45],[46,46,46,45],[46,45,45],[45,46,46,45],[45,46,45,45],[45,45,46,46]]:List (List UInt8)).getD ((IntKind.wrap .u8 (((a0.getD 0 0).toNat:Int)-65)).toNat) [])
namespace N237
theorem DD:DOk Tryz.prog (Go.Ab.DD []):=yc _
theorem o0 {p:Prop} (h:p:=by(first|(simp only[Bool.or_eq_false_iff,Bool.not_eq_false',Bool.or_eq_true,bne_eq_false_iff_eq]at hb;have h9:=y7u a0 hb;have h8:=hb.1.1;and_intros<;>omega));first|done|fail):p:=h
theorem den (a0:(List UInt8))  : Den Tryz.prog 237 [.str a0] (.str (zp a0)):=by
 generalize hR:zp a0=r;unfold zp at hR;refine di Tryz.func237 Tryz.ntmps237 Tryz.results237 ?_;intro c hL hc hk;obtain⟨hL0,_⟩:=hL;have hw0:a0.length<9223372036854775808:=Nat.lt_succ_of_le hL0;clear hL0;simp only[pars,Nat.zero_add];iterate 2 refine rS ?_
 refine AWP.cond rfl (fun hb => ?_) (fun hb => ?_)
 ·replace hR:=ct hR
  refine rS ?_;refine AWP.ret ?_;subst hR;exact es
 ·replace hR:=cf hR
  refine rS ?_;refine AWP.ret ?_;subst hR;exact es
end N237
def D_zp : DF
 | [x0]=>some (.str (zp (rdS x0)),false,[wS x0])
 | _=>none
theorem y6s:OkD Tryz.prog 237 D_zp:=by unfold D_zp;exact dk N237.den
def zkb (a0:Character):Bool:=
 (bif (a0.Kind == 1)then(((a0.Group.length:Int) == 0) && (a0.Letter == []))else(bif (a0.Kind == 3)then(((a0.Group.length:Int) == 0) && (a0.Letter == []))else(bif (a0.Kind == 2)then((a0.Letter == []) && (zzb a0.Group))else(bif (a0.Kind == 4)then((a0.Letter == []) && (zzb a0.Group))else(bif (a0.Kind == 5)then((a0.Letter == []) && (zzb a0.Group))else(bif (a0.Kind == 6)then(bif (a0.Letter == [])then(((a0.Group.length:Int) == 0) || (((a0.Group.length:Int) == 1) && (za (a0.Group.getD 0 default) 2 9)))else((a0.Letter == [76]) && (zab a0.Group ([6]:List Int))))else(bif (a0.Kind == 7)then(bif (a0.Letter == [])then(((a0.Group.length:Int) == 0) || (((a0.Group.length:Int) == 1) && (za (a0.Group.getD 0 default) 2 9)))else((a0.Letter == [76]) && (zab a0.Group ([6]:List Int))))else(bif (a0.Kind == 8)then(((zp a0.Letter) != []) && ((a0.Group.length:Int) == 0))else false))))))))
namespace N178
theorem DD:DOk Tryz.prog (Go.Ab.DD [(101,dP D_za),(235,dP D_zzb),(236,dP D_zab),(237,dP D_zp)]):=ya y9b.e <| ya yvu.e <| ya y4o.e <| ya y6s.e <| yc _
theorem dn:type_of% (And.intro @D_za.eq_1 <| And.intro @D_zzb.eq_1 <| And.intro @D_zab.eq_1 <| @D_zp.eq_1):=by and_intros<;>intros<;>rfl
theorem ol:type_of% (@za.eq_1):=@za.eq_1
theorem den (a0:Character)  : Den Tryz.prog 178 [.agg (eCharacter a0)] (.bool (zkb a0)):=by
 generalize hR:zkb a0=r;unfold zkb at hR;refine di Tryz.func178 Tryz.ntmps178 Tryz.results178 ?_;intro c hL hc hk;obtain⟨hL0,_⟩:=hL;have hw0:bwCharacter a0:=yn a0 hL0;clear hL0;simp only[pars,Nat.zero_add];iterate 3 refine rS ?_
 refine AWP.cond rfl (fun hb => ?_) (fun hb => ?_)
 ·replace hR:=ct hR
  refine AWP.skip ?_;refine AWP.cond rfl (fun hb => ?_) (fun hb => ?_)
  ·refine rS ?_
   refine AWP.ret ?_;subst hR;exact es
  ·exfalso;simp_all
 ·replace hR:=cf hR
  refine rS ?_;refine AWP.cond rfl (fun hb => ?_) (fun hb => ?_)
  ·replace hR:=ct hR
   refine rS ?_;refine AWP.ret ?_;subst hR;exact es
  ·replace hR:=cf hR
   refine rS ?_;refine AWP.cond rfl (fun hb => ?_) (fun hb => ?_)
   ·replace hR:=ct hR
    refine AWP.skip ?_;refine AWP.cond rfl (fun hb => ?_) (fun hb => ?_)
    ·refine rS ?_
     refine AWP.ret ?_;subst hR;exact es
    ·exfalso;simp_all
   ·replace hR:=cf hR
    refine rS ?_;refine AWP.cond rfl (fun hb => ?_) (fun hb => ?_)
    ·replace hR:=ct hR
     refine AWP.skip ?_;refine AWP.cond rfl (fun hb => ?_) (fun hb => ?_)
     ·refine rS ?_
      refine AWP.ret ?_;subst hR;exact es
     ·exfalso;simp_all
    ·replace hR:=cf hR
     refine rS ?_;refine AWP.cond rfl (fun hb => ?_) (fun hb => ?_)
     ·replace hR:=ct hR
      refine rS ?_;refine AWP.ret ?_;subst hR;exact es
     ·replace hR:=cf hR
      refine rS ?_;refine AWP.cond rfl (fun hb => ?_) (fun hb => ?_)
      ·replace hR:=ct hR
       refine AWP.skip ?_;refine AWP.cond rfl (fun hb => ?_) (fun hb => ?_)
       ·refine rS ?_
        refine AWP.cond rfl (fun hb => ?_) (fun hb => ?_)
        ·replace hR:=ct hR
         refine rS ?_;refine AWP.ret ?_;subst hR;exact es
        ·replace hR:=cf hR
         refine rS ?_;refine AWP.ret ?_;subst hR;exact es
       ·exfalso;simp_all
      ·replace hR:=cf hR
       refine rS ?_;refine AWP.cond rfl (fun hb => ?_) (fun hb => ?_)
       ·replace hR:=ct hR
        refine rS ?_;refine AWP.cond rfl (fun hb => ?_) (fun hb => ?_)
        ·replace hR:=ct hR
         refine rS ?_;refine AWP.ret ?_;subst hR;exact es
        ·replace hR:=cf hR
         refine rS ?_;refine AWP.ret ?_;subst hR;exact es
       ·replace hR:=cf hR
        refine rS ?_;refine AWP.cond rfl (fun hb => ?_) (fun hb => ?_)
        ·replace hR:=ct hR
         refine rS ?_;refine AWP.ret ?_;subst hR;exact es
        ·replace hR:=cf hR
         refine rS ?_;refine AWP.ret ?_;subst hR;exact es
end N178
def D_zkb : DF
 | [x0]=>some (.bool (zkb (rdG yd x0)),false,[wG eCharacter yd x0])
 | _=>none
theorem yww:OkD Tryz.prog 178 D_zkb:=by unfold D_zkb;exact dk N178.den
theorem y5g (a:List UInt8):zp a=if a.length=1/\65<=(a.getD 0 0).toNat/\(a.getD 0 0).toNat<=90 then ypc.getD ((a.getD 0 0).toNat-65) []else[]:=by
 unfold zp;by_cases h1:a.length=1
 ·have c1:((a.length:Int) != 1)=false:=by rw[h1];rfl
  rw[c1,ypf a 65 h1,ypf a 90 h1,yas a 90 h1];have e1:(65:UInt8).toNat=65:=rfl;have e2:(90:UInt8).toNat=90:=rfl;rw[e1,e2];by_cases h2:65<=(a.getD 0 0).toNat/\(a.getD 0 0).toNat<=90
  ·rw[if_pos ⟨h1,h2⟩,decide_eq_false (by omega)]
   have c2:(decide ((a.getD 0 0).toNat<90) || decide ((a.getD 0 0).toNat=90))=true:=by
    rw[Bool.or_eq_true,decide_eq_true_eq,decide_eq_true_eq];omega
   rw[c2];simp only[Bool.or_self,Bool.not_true,cond_false];rw[y4h _ (by omega) (by omega),show((((a.getD 0 0).toNat:Int)-65).toNat)=(a.getD 0 0).toNat-65 by omega];rfl
  ·rw[if_neg (fun h=>h2 h.2)]
   by_cases h3:(a.getD 0 0).toNat<65
   ·rw[decide_eq_true h3];rfl
   ·have c2:(decide ((a.getD 0 0).toNat<90) || decide ((a.getD 0 0).toNat=90))=false:=by
     rw[decide_eq_false (by omega),decide_eq_false (by omega)];rfl
    rw[c2,decide_eq_false h3];rfl
 ·have c1:((a.length:Int) != 1)=true:=by rw[bne_iff_ne];omega
  rw[c1,if_neg (fun h=>h1 h.1)];rfl
theorem yer (a:List UInt8):(zp a).length<=4:=by
 rw[y5g];split
 ·exact ygh _
 ·simp
theorem y1m (a:List UInt8):∀ x∈zp a,x.toNat<128:=by
 intro x hx;rw[y5g]at hx;split at hx
 ·rw[List.getD_eq_getElem?_getD]at hx
  cases h:ypc[(a.getD 0 0).toNat-65]? with
  | none=>rw[h]at hx;simp at hx
  | some y=>
   rw[h]at hx;rcases(ylf y (List.mem_of_getElem? h)).2.2 x hx with e|e<;>subst e<;>decide
 ·simp at hx
def zqf (a0:Int):Bool:=
 ((a0 == 6) || (a0 == 7))
namespace N238
theorem DD:DOk Tryz.prog (Go.Ab.DD []):=yc _
theorem den (a0:Int)  : Den Tryz.prog 238 [.int .i64 a0] (.bool (zqf a0)):=by
 generalize hR:zqf a0=r;unfold zqf at hR;refine di Tryz.func238 Tryz.ntmps238 Tryz.results238 ?_;intro c hL hc hk;clear hL;simp only[pars,Nat.zero_add];iterate 2 refine rS ?_
 refine AWP.ret ?_;subst hR;exact es
end N238
def D_zqf : DF
 | [x0]=>some (.bool (zqf (rdI x0)),false,[wI .i64 x0])
 | _=>none
theorem yjw:OkD Tryz.prog 238 D_zqf:=by unfold D_zqf;exact dk N238.den
def zsc (a0:Character):Bool:=
 ((a0.Kind == 1) || ((zqf a0.Kind) && ((a0.Group.length:Int) == 0)))
namespace N179
theorem DD:DOk Tryz.prog (Go.Ab.DD [(238,dP D_zqf)]):=ya yjw.e <| yc _
theorem dn:type_of% (@D_zqf.eq_1):=by and_intros<;>intros<;>rfl
theorem den (a0:Character)  : Den Tryz.prog 179 [.agg (eCharacter a0)] (.bool (zsc a0)):=by
 generalize hR:zsc a0=r;unfold zsc at hR;refine di Tryz.func179 Tryz.ntmps179 Tryz.results179 ?_;intro c hL hc hk;obtain⟨hL0,_⟩:=hL;have hw0:bwCharacter a0:=yn a0 hL0;clear hL0;simp only[pars,Nat.zero_add];iterate 2 refine rS ?_
 refine AWP.ret ?_;subst hR;exact es
end N179
def D_zsc : DF
 | [x0]=>some (.bool (zsc (rdG yd x0)),false,[wG eCharacter yd x0])
 | _=>none
theorem ypp:OkD Tryz.prog 179 D_zsc:=by unfold D_zsc;exact dk N179.den
def zf (a0:Int):(Int×Int×Int):=
 (bif (a0 == 2)then(10,10,15)else(bif (a0 == 4)then(5,15,20)else(bif (a0 == 5)then(20,20,25)else(bif (a0 == 6)then(5,5,20)else(bif (a0 == 7)then(2,3,10)else(bif (a0 == 8)then(5,5,30)else(0,0,0)))))))
namespace N191
theorem DD:DOk Tryz.prog (Go.Ab.DD []):=yc _
theorem den (a0:Int)  : Den Tryz.prog 191 [.int .i64 a0] (.tup [.int .i64 ((zf a0).1),.int .i64 ((zf a0).2.1),.int .i64 ((zf a0).2.2)]):=by
 generalize hR:zf a0=r;unfold zf at hR;refine di Tryz.func191 Tryz.ntmps191 Tryz.results191 ?_;intro c hL hc hk;clear hL;simp only[pars,Nat.zero_add];iterate 3 refine rS ?_
 refine AWP.cond rfl (fun hb => ?_) (fun hb => ?_)
 ·replace hR:=ct hR
  refine rS ?_;refine AWP.ret ?_;subst hR;exact es
 ·replace hR:=cf hR
  refine rS ?_;refine AWP.cond rfl (fun hb => ?_) (fun hb => ?_)
  ·replace hR:=ct hR
   refine rS ?_;refine AWP.ret ?_;subst hR;exact es
  ·replace hR:=cf hR
   refine rS ?_;refine AWP.cond rfl (fun hb => ?_) (fun hb => ?_)
   ·replace hR:=ct hR
    refine rS ?_;refine AWP.ret ?_;subst hR;exact es
   ·replace hR:=cf hR
    refine rS ?_;refine AWP.cond rfl (fun hb => ?_) (fun hb => ?_)
    ·replace hR:=ct hR
     refine rS ?_;refine AWP.ret ?_;subst hR;exact es
    ·replace hR:=cf hR
     refine rS ?_;refine AWP.cond rfl (fun hb => ?_) (fun hb => ?_)
     ·replace hR:=ct hR
      refine rS ?_;refine AWP.ret ?_;subst hR;exact es
     ·replace hR:=cf hR
      refine rS ?_;refine AWP.cond rfl (fun hb => ?_) (fun hb => ?_)
      ·replace hR:=ct hR
       refine rS ?_;refine AWP.ret ?_;subst hR;exact es
      ·replace hR:=cf hR
       refine rS ?_;refine AWP.ret ?_;subst hR;exact es
end N191
def D_zf : DF
 | [x0]=>some (.tup [.int .i64 ((zf (rdI x0)).1),.int .i64 ((zf (rdI x0)).2.1),.int .i64 ((zf (rdI x0)).2.2)],false,[wI .i64 x0])
 | _=>none
theorem y3s:OkD Tryz.prog 191 D_zf:=by unfold D_zf;exact dk N191.den
end Go.Ab
