/- A part of a proof: walks of functions and lemmas of our own. No conditions. -/
import Derived.Test.YtbgiihoaldolfaaGreatCAl
import Derived.Test.YtbgiihoaldolfaaGreatCAo
import Derived.Test.YtbgiihoaldolfaaGreatCAp
set_option linter.unusedSectionVars false
set_option linter.unusedVariables false
set_option linter.unusedSimpArgs false
set_option maxHeartbeats 1000000
namespace Go.Ab
open Go Go.Proofs
def yev (a0:(List Phase)) (i1:Nat) (s1:List Int) (i2:Nat) (s2:List Int):Except ((List Int)) (List Int):=
 .ok (s2++([((((a0.getD i1 default).Color).getD 0 0).toNat:Int)]:List Int))
def ytu (a0:(List Phase)) (i1:Nat) (s1:List Int) (i3:Nat) (s3:List Int):Except ((List Int)) (List Int):=
 .ok (s3++([0]:List Int))
def y4u (a0:(List Phase)) (i1:Nat) (s1:List Int):Except ((List Int)) (List Int):=
 (bif (((a0.getD i1 default).Color) != [])then(match ye (yev a0 i1 s1) (((a0.getD i1 default).Length).toNat-0) 0 s1 with|.error e=>.error e|.ok s2=>.ok s2)else(match ye (ytu a0 i1 s1) (((a0.getD i1 default).Length).toNat-0) 0 s1 with|.error e=>.error e|.ok s3=>.ok s3))
def zw (a0:(List Phase)):(List Int):=
 (match ye (y4u a0) (a0.length-0) 0 ([]:List Int)with|.error e=>e|.ok s1=>s1)
namespace N130
theorem DD:DOk Tryz.prog (Go.Ab.DD []):=yj _
theorem o1 {p:Prop} (h:p:=by(first|(have h9:=hph i1 hlt1;omega));first|done|fail):p:=h
set_option maxHeartbeats 2000000 in
set_option maxRecDepth 20000 in
theorem den (a0:(List Phase)) (hp0:PhOk a0):Den Tryz.prog 130 [encL 2 yn a0] (ownL 5 1 eIu8 (zw a0)):=by
 generalize hR:zw a0=r;unfold zw at hR;refine di Tryz.func130 Tryz.ntmps130 Tryz.results130 ?_;intro c hL hc hk;obtain⟨hL0,_⟩:=hL;have hw0:a0.length<9223372036854775808:=Nat.lt_succ_of_le (yc hL0).1;have hw1:∀ v∈a0,bwPhase v:=fun v hv=>ycb v ((yc hL0).2 v hv)
 clear hL0;simp only[pars,Nat.zero_add];have hph:=fun(i:Nat) (hi:i<a0.length)=>PhOk.at hp0 hi
 have hpl:=hp0.2.1;iterate 3 refine rS ?_
 refine AWP.block ?_;generalize hz1:ye (y4u a0) (a0.length-0) 0 ([]:List Int)=z1 at hR;refine AWP.range (y4u a0) (fun i1 s1=>⟨[(0,encL 2 yn a0),(3,.ref 0 1 0 s1.length),(4,.int .i64 (i1:Int))],[.arr 5 1 s1.length (fun j=>eIu8 (s1.getD j default))]⟩) (fun i1 s1=>s1.length<=1000 * i1) (a0.length) 0 ([]:List Int) [0] hz1 ot wt sm ?_;clear hz1;intro i1 s1 hi1 hW1 hz1;refine rS ?_;refine AWP.cond rfl (fun hb => ?_) (fun hb => ?_)
 ·have hlt1:i1<a0.length:=ot
  rw[yg hlt1]at hz1;simp only[y4u]at hz1;iterate 2 refine rS ?_
  refine AWP.cond rfl (fun hb => ?_) (fun hb => ?_)
  ·simp only[hb,cond_true]at hz1
   iterate 2 refine rS ?_
   refine AWP.block ?_;generalize hz2:ye (yev a0 i1 s1) (((a0.getD i1 default).Length).toNat-0) 0 s1=z2 at hz1;refine AWP.range (yev a0 i1 s1) (fun i2 s2=>⟨[(0,encL 2 yn a0),(3,.ref 0 1 0 s2.length),(4,.int .i64 (i1:Int)),(5,.int .u8 ((((a0.getD i1 default).Color).getD 0 0).toNat:Int)),(6,.int .i64 (i2:Int))],[.arr 5 1 s2.length (fun j=>eIu8 (s2.getD j default))]⟩) (fun i2 s2=>s2.length<=s1.length+1 * i2/\s2.length<=1000 * i1+i2) (((a0.getD i1 default).Length).toNat) 0 s1 [0] hz2 ot (by(have h9:=hW1;exact⟨by omega,by omega⟩)) sm ?_;clear hz2;intro i2 s2 hi2 hW2 hz2;refine rS ?_;refine AWP.cond rfl (fun hb => ?_) (fun hb => ?_)
   ·have hlt2:i2<((a0.getD i1 default).Length).toNat:=ot
    rw[yg hlt2]at hz2;simp only[yev]at hz2;iterate 2 refine rS ?_
    exact⟨_,[2],hlt2,wt,hz2,sm⟩
   ·obtain rfl:i2=((a0.getD i1 default).Length).toNat:=ot
    rw[yh (Nat.le_refl _)]at hz2;subst hz2;dsimp only at hz1;refine AWP.exit ?_;refine yb ?_;refine rS ?_;exact⟨_,[0],hlt1,by(have h8:=hph i1 hlt1;first|(have h9:=hW2.2;omega)|(have h9:=hW3.2;omega)),hz1,sm⟩
  ·simp only[hb,cond_false]at hz1
   refine rS ?_;refine AWP.block ?_;generalize hz3:ye (ytu a0 i1 s1) (((a0.getD i1 default).Length).toNat-0) 0 s1=z3 at hz1;refine AWP.range (ytu a0 i1 s1) (fun i3 s3=>⟨[(0,encL 2 yn a0),(3,.ref 0 1 0 s3.length),(4,.int .i64 (i1:Int)),(5,.int .u8 0),(6,.int .i64 (i3:Int))],[.arr 5 1 s3.length (fun j=>eIu8 (s3.getD j default))]⟩) (fun i3 s3=>s3.length<=s1.length+1 * i3/\s3.length<=1000 * i1+i3) (((a0.getD i1 default).Length).toNat) 0 s1 [0] hz3 ot (by(have h9:=hW1;exact⟨by omega,by omega⟩)) sm ?_;clear hz3;intro i3 s3 hi3 hW3 hz3;refine rS ?_;refine AWP.cond rfl (fun hb => ?_) (fun hb => ?_)
   ·have hlt3:i3<((a0.getD i1 default).Length).toNat:=ot
    rw[yg hlt3]at hz3;simp only[ytu]at hz3;iterate 2 refine rS ?_
    exact⟨_,[2],hlt3,wt,hz3,sm⟩
   ·obtain rfl:i3=((a0.getD i1 default).Length).toNat:=ot
    rw[yh (Nat.le_refl _)]at hz3;subst hz3;dsimp only at hz1;refine AWP.exit ?_;refine yb ?_;refine rS ?_;exact⟨_,[0],hlt1,by(have h8:=hph i1 hlt1;first|(have h9:=hW2.2;omega)|(have h9:=hW3.2;omega)),hz1,sm⟩
 ·obtain rfl:i1=a0.length:=ot
  rw[yh (Nat.le_refl _)]at hz1;subst hz1;dsimp only at hR;refine AWP.exit ?_;refine yb ?_;refine rS ?_;refine AWP.ret ?_;subst hR;exact es
end N130
def D_zw : DF
 | [x0]=>some (ownL 5 1 eIu8 (zw (rdL y6 x0)),false,[wL 2 yn y6 x0,PhOk (rdL y6 x0)])
 | _=>none
theorem y10:OkD Tryz.prog 130 D_zw:=by unfold D_zw;exact dk N130.den
def yok (a0:(List Int)) (i1:Nat) (s1:Unit) (s2:Bool×Int):Except (Sum (Int) (Bool×Int)) (Bool×Int):=
 (bif (decide ((IntKind.wrap .i64 (s2.2+(i1:Int)))<(a0.length:Int)) && s2.1)then .ok (((a0.getD ((s2.2).toNat) default) == (a0.getD ((IntKind.wrap .i64 (s2.2+(i1:Int))).toNat) default)),IntKind.wrap .i64 (s2.2+1))else .error (.inr (s2.1,s2.2)))
def ydh (a0:(List Int)) (i1:Nat) (s1:Unit):Except (Int) (Unit):=
 (bif (((a0.length:Int).tmod (i1:Int)) != 0)then .ok ()else(match yme (yok a0 i1 s1) (((a0.length-(0:Int)).toNat)+1) (true,0)with|.error (.inl e)=>.error e|.error (.inr s2)=>(bif s2.1 then .error (i1:Int)else .ok ())|.ok _=>.error default))
def zgb (a0:(List Int)):Int:=
 (match ye (ydh a0) (a0.length-1) 1 ()with|.error e=>e|.ok s1=>(a0.length:Int))
namespace N131
theorem DD:DOk Tryz.prog (Go.Ab.DD []):=yj _
theorem o1 {p:Prop} (h:p:=by(first|(have hcx:(decide ((IntKind.wrap .i64 (s2.2+(i1:Int)))<(a0.length:Int)) && s2.1)=true:=(by assumption);simp only[Bool.and_eq_true,decide_eq_true_eq]at hcx;have hw9:IntKind.wrap .i64 (s2.2+(i1:Int))=s2.2+(i1:Int):=(by rw[IntKind.wrap_i64];omega);rw[hw9]at hcx;have hw8:IntKind.wrap .i64 (s2.2+1)=s2.2+1:=(by rw[IntKind.wrap_i64];omega);(try rw[hw9]);first|omega|(refine⟨?_,?_⟩<;>omega)));first|done|fail):p:=h
set_option maxHeartbeats 2000000 in
set_option maxRecDepth 20000 in
theorem den (a0:(List Int)) (hp0:1<=a0.length) (hp1:a0.length<=1048576):Den Tryz.prog 131 [encL 1 eIu8 a0] (.int .i64 (zgb a0)):=by
 generalize hR:zgb a0=r;unfold zgb at hR;refine di Tryz.func131 Tryz.ntmps131 Tryz.results131 ?_;intro c hL hc hk;obtain⟨hL0,_⟩:=hL;have hw0:a0.length<9223372036854775808:=Nat.lt_succ_of_le (yc hL0).1;clear hL0;simp only[pars,Nat.zero_add];iterate 2 refine rS ?_
 refine AWP.block ?_;generalize hz1:ye (ydh a0) (a0.length-1) 1 ()=z1 at hR;refine AWP.range (ydh a0) (fun i1 s1=>⟨[(0,encL 1 eIu8 a0),(3,.int .i64 (i1:Int))],[]⟩) (fun i1 s1=>1<=i1) (a0.length) 1 () [] hz1 ot wt sm ?_;clear hz1;intro i1 s1 hi1 hW1 hz1;refine rS ?_;refine AWP.cond rfl (fun hb => ?_) (fun hb => ?_)
 ·have hlt1:i1<a0.length:=ot
  rw[yg hlt1]at hz1;simp only[ydh]at hz1;refine rS ?_;refine AWP.cond rfl (fun hb => ?_) (fun hb => ?_)
  ·simp only[hb,cond_true]at hz1
   refine AWP.exit ?_;refine yb ?_;refine rS ?_;exact⟨_,[],hlt1,wt,hz1,sm⟩
  ·simp only[hb,cond_false]at hz1
   iterate 2 refine rS ?_
   refine AWP.block ?_;generalize hz2:yme (yok a0 i1 s1) (((a0.length-(0:Int)).toNat)+1) (true,0)=z2 at hz1;refine AWP.whileW (yok a0 i1 s1) (fun s2=>⟨[(0,encL 1 eIu8 a0),(3,.int .i64 (i1:Int)),(4,.bool s2.1),(5,.int .i64 s2.2)],[]⟩) (fun s2=>0<=s2.2/\s2.2<=a0.length) (fun s2=>(a0.length-s2.2).toNat) (((a0.length-(0:Int)).toNat)+1) (true,0) [] hz2 m0 (by(refine⟨by(try dsimp only);omega,by(try dsimp only);omega⟩)) sm ?_;clear hz2;intro s2 k2 hW2 hm2 hz2;simp only[yok]at hz2;refine rS ?_;refine AWP.cond rfl (fun hb => ?_) (fun hb => ?_)
   ·simp only[hb,cond_true]at hz2
    refine rD 10 ?_;refine rS ?_;exact⟨_,[],by(have hcx:(decide ((IntKind.wrap .i64 (s2.2+(i1:Int)))<(a0.length:Int)) && s2.1)=true:=(by assumption);simp only[Bool.and_eq_true,decide_eq_true_eq]at hcx;have hw9:IntKind.wrap .i64 (s2.2+(i1:Int))=s2.2+(i1:Int):=(by rw[IntKind.wrap_i64];omega);rw[hw9]at hcx;have hw8:IntKind.wrap .i64 (s2.2+1)=s2.2+1:=(by rw[IntKind.wrap_i64];omega);(try dsimp only);rw[hw8];omega),by(have hcx:(decide ((IntKind.wrap .i64 (s2.2+(i1:Int)))<(a0.length:Int)) && s2.1)=true:=(by assumption);simp only[Bool.and_eq_true,decide_eq_true_eq]at hcx;have hw9:IntKind.wrap .i64 (s2.2+(i1:Int))=s2.2+(i1:Int):=(by rw[IntKind.wrap_i64];omega);rw[hw9]at hcx;have hw8:IntKind.wrap .i64 (s2.2+1)=s2.2+1:=(by rw[IntKind.wrap_i64];omega);refine⟨?_,?_⟩<;>(try dsimp only)<;>(rw[hw8];omega)),hz2,sm⟩
   ·simp only[hb,cond_false]at hz2
    refine AWP.exit ?_;refine yb ?_;subst hz2;dsimp only at hz1;refine rS ?_;refine AWP.cond rfl (fun hb => ?_) (fun hb => ?_)
    ·simp only[hb,cond_true]at hz1
     refine rS ?_;refine AWP.ret ?_;subst hz1;dsimp only at hR;subst hR;exact es
    ·simp only[hb,cond_false]at hz1
     refine rS ?_;exact⟨_,[],hlt1,wt,hz1,sm⟩
 ·obtain rfl:i1=a0.length:=ot
  rw[yh (Nat.le_refl _)]at hz1;subst hz1;dsimp only at hR;refine AWP.exit ?_;refine yb ?_;refine rS ?_;refine AWP.ret ?_;subst hR;exact es
end N131
def D_zgb : DF
 | [x0]=>some (.int .i64 (zgb (rdL dIu8 x0)),false,[wL 1 eIu8 dIu8 x0,1<=(rdL dIu8 x0).length,(rdL dIu8 x0).length<=1048576])
 | _=>none
theorem y2y:OkD Tryz.prog 131 D_zgb:=by unfold D_zgb;exact dk N131.den
def ywg (a0:(List Int)) (i1:Nat) (s1:Int) (i2:Nat) (s2:Int):Except (Sum (Int) (Int)) (Int):=
 (bif ((a0.getD (((IntKind.wrap .i64 ((i1:Int)+(i2:Int))).tmod (a0.length:Int)).toNat) default) != (a0.getD (((IntKind.wrap .i64 (s2+(i2:Int))).tmod (a0.length:Int)).toNat) default))then(bif decide ((a0.getD (((IntKind.wrap .i64 ((i1:Int)+(i2:Int))).tmod (a0.length:Int)).toNat) default)<(a0.getD (((IntKind.wrap .i64 (s2+(i2:Int))).tmod (a0.length:Int)).toNat) default))then .error (.inr (i1:Int))else .error (.inr s2))else .ok s2)
def yrl (a0:(List Int)) (i1:Nat) (s1:Int):Except (Int) (Int):=
 (match ye (ywg a0 i1 s1) (a0.length-0) 0 s1 with|.error (.inl e)=>.error e|.error (.inr s2)=>.ok s2|.ok s2=>.ok s2)
def zfb (a0:(List Int)):Int:=
 (match ye (yrl a0) (a0.length-1) 1 0 with|.error e=>e|.ok s1=>s1)
namespace N121
theorem DD:DOk Tryz.prog (Go.Ab.DD []):=yj _
theorem o1 {p:Prop} (h:p:=by(first|(have h9:=ywl (a:=IntKind.wrap .i64 ((i1:Int)+(i2:Int))) (n:=(a0.length:Int)) (by first|omega|(rw[IntKind.wrap_i64];omega)|(rw[IntKind.wrap_i64,IntKind.wrap_i64];omega)) (by omega);first|exact h9.1|exact h9.2.1|exact⟨h9.1,h9.2.1⟩|omega)|(have h9:=ywl (a:=IntKind.wrap .i64 (s2+(i2:Int))) (n:=(a0.length:Int)) (by first|omega|(rw[IntKind.wrap_i64];omega)|(rw[IntKind.wrap_i64,IntKind.wrap_i64];omega)) (by omega);first|exact h9.1|exact h9.2.1|exact⟨h9.1,h9.2.1⟩|omega));first|done|fail):p:=h
set_option maxHeartbeats 2000000 in
set_option maxRecDepth 20000 in
theorem den (a0:(List Int)) (hp0:1<=a0.length) (hp1:a0.length<=1048576):Den Tryz.prog 121 [encL 1 eIu8 a0] (.int .i64 (zfb a0)):=by
 generalize hR:zfb a0=r;unfold zfb at hR;refine di Tryz.func121 Tryz.ntmps121 Tryz.results121 ?_;intro c hL hc hk;obtain⟨hL0,_⟩:=hL;have hw0:a0.length<9223372036854775808:=Nat.lt_succ_of_le (yc hL0).1;clear hL0;simp only[pars,Nat.zero_add];iterate 3 refine rS ?_
 refine AWP.block ?_;generalize hz1:ye (yrl a0) (a0.length-1) 1 0=z1 at hR;refine AWP.range (yrl a0) (fun i1 s1=>⟨[(0,encL 1 eIu8 a0),(3,.int .i64 s1),(4,.int .i64 (i1:Int))],[]⟩) (fun i1 s1=>1<=i1/\0<=s1/\s1<(a0.length:Int)) (a0.length) 1 0 [] hz1 ot wt sm ?_;clear hz1;intro i1 s1 hi1 hW1 hz1;refine rS ?_;refine AWP.cond rfl (fun hb => ?_) (fun hb => ?_)
 ·have hlt1:i1<a0.length:=ot
  rw[yg hlt1]at hz1;simp only[yrl]at hz1;refine rS ?_;refine AWP.block ?_;generalize hz2:ye (ywg a0 i1 s1) (a0.length-0) 0 s1=z2 at hz1;refine AWP.range (ywg a0 i1 s1) (fun i2 s2=>⟨[(0,encL 1 eIu8 a0),(3,.int .i64 s2),(4,.int .i64 (i1:Int)),(5,.int .i64 (i2:Int))],[]⟩) (fun i2 s2=>0<=s2/\s2<(a0.length:Int)) (a0.length) 0 s1 [] hz2 ot wt sm ?_;clear hz2;intro i2 s2 hi2 hW2 hz2;refine rS ?_;refine AWP.cond rfl (fun hb => ?_) (fun hb => ?_)
  ·have hlt2:i2<a0.length:=ot
   rw[yg hlt2]at hz2;simp only[ywg]at hz2;iterate 3 refine rS ?_
   refine AWP.cond rfl (fun hb => ?_) (fun hb => ?_)
   ·simp only[hb,cond_true]at hz2
    refine rS ?_;refine AWP.cond rfl (fun hb => ?_) (fun hb => ?_)
    ·simp only[hb,cond_true]at hz2
     refine rS ?_;refine AWP.exit ?_;refine yci rfl ?_;refine yb ?_;subst hz2;dsimp only at hz1;refine rS ?_;exact⟨_,[],hlt1,wt,hz1,sm⟩
    ·simp only[hb,cond_false]at hz2
     refine AWP.skip ?_;refine AWP.exit ?_;refine yci rfl ?_;refine yb ?_;subst hz2;dsimp only at hz1;refine rS ?_;exact⟨_,[],hlt1,wt,hz1,sm⟩
   ·simp only[hb,cond_false]at hz2
    refine rS ?_;exact⟨_,[],hlt2,wt,hz2,sm⟩
  ·obtain rfl:i2=a0.length:=ot
   rw[yh (Nat.le_refl _)]at hz2;subst hz2;dsimp only at hz1;refine AWP.exit ?_;refine yb ?_;refine rS ?_;exact⟨_,[],hlt1,wt,hz1,sm⟩
 ·obtain rfl:i1=a0.length:=ot
  rw[yh (Nat.le_refl _)]at hz1;subst hz1;dsimp only at hR;refine AWP.exit ?_;refine yb ?_;refine rS ?_;refine AWP.ret ?_;subst hR;exact es
end N121
def D_zfb : DF
 | [x0]=>some (.int .i64 (zfb (rdL dIu8 x0)),false,[wL 1 eIu8 dIu8 x0,1<=(rdL dIu8 x0).length,(rdL dIu8 x0).length<=1048576])
 | _=>none
theorem yty:OkD Tryz.prog 121 D_zfb:=by unfold D_zfb;exact dk N121.den
def zkd (a0:Int):(List UInt8):=
 (bif (a0 == 0)then[]else(([a0]:List Int).map fun z=>UInt8.ofNat z.toNat))
namespace N132
theorem DD:DOk Tryz.prog (Go.Ab.DD []):=yj _
theorem den (a0:Int)  : Den Tryz.prog 132 [.int .u8 a0] (.str (zkd a0)):=by
 generalize hR:zkd a0=r;unfold zkd at hR;refine di Tryz.func132 Tryz.ntmps132 Tryz.results132 ?_;intro c hL hc hk;clear hL;simp only[pars,Nat.zero_add];iterate 2 refine rS ?_
 refine AWP.cond rfl (fun hb => ?_) (fun hb => ?_)
 ·replace hR:=ct hR
  refine rS ?_;refine AWP.ret ?_;subst hR;exact es
 ·replace hR:=cf hR
  refine rS ?_;refine AWP.ret ?_;subst hR;exact es
end N132
def D_zkd : DF
 | [x0]=>some (.str (zkd (rdI x0)),false,[wI .u8 x0])
 | _=>none
theorem yfy:OkD Tryz.prog 132 D_zkd:=by unfold D_zkd;exact dk N132.den
def yei (a0:(List Int)) (a1:Int) (i1:Nat) (s1:List Phase):Except ((List Phase)) (List Phase):=
 (bif (decide (0<(s1.length:Int)) && (((s1.getD ((IntKind.wrap .i64 ((s1.length:Int)-1)).toNat) default).Color) == (zkd (a0.getD (((IntKind.wrap .i64 (a1+(i1:Int))).tmod (a0.length:Int)).toNat) default))))then .ok (s1.set ((IntKind.wrap .i64 ((s1.length:Int)-1)).toNat) ({ Color:=(s1.getD ((IntKind.wrap .i64 ((s1.length:Int)-1)).toNat) default).Color,Length:=IntKind.wrap .i64 (((s1.getD ((IntKind.wrap .i64 ((s1.length:Int)-1)).toNat) default).Length)+1):Phase }))else .ok (s1++[{ Color:=(zkd (a0.getD (((IntKind.wrap .i64 (a1+(i1:Int))).tmod (a0.length:Int)).toNat) default)),Length:=1:Phase }]))
def zec (a0:(List Int)) (a1:Int):(List Phase):=
 (match ye (yei a0 a1) (a0.length-0) 0 ([]:List Phase)with|.error e=>e|.ok s1=>s1)
namespace N120
theorem DD:DOk Tryz.prog (Go.Ab.DD [(132,dP D_zkd)]):=yd yfy.e <| yj _
theorem dn:type_of% (@D_zkd.eq_1):=by and_intros<;>intros<;>rfl
theorem o1 {p:Prop} (h:p:=by(first|(have h9:=ywl (a:=IntKind.wrap .i64 (a1+(i1:Int))) (n:=(a0.length:Int)) (by first|omega|(rw[IntKind.wrap_i64];omega)|(rw[IntKind.wrap_i64,IntKind.wrap_i64];omega)) (by omega);first|exact h9.1|exact h9.2.1|exact⟨h9.1,h9.2.1⟩|omega));first|done|fail):p:=h
theorem o2 {p:Prop} (h:p:=by(first|((repeat' with_reducible apply And.intro)<;>first|(simp only[List.length_set];(first|done|fail))|(rw[IntKind.wrap_i64];omega)|(simp only[List.length_set];omega)|(intro j hj;by_cases hji:j=(IntKind.wrap .i64 ((s1.length:Int)-1)).toNat;(focus(rw[<- hji,yhd _ _ _ hj];simp only[beq_self_eq_true,cond_true]));(rw[yid _ _ _ _ hji];simp only[beq_eq_false_iff_ne.2 hji,cond_false]))|decide)|((repeat' with_reducible apply And.intro)<;>first|(simp only[List.length_append,List.length_singleton];(first|done|fail))|(rw[IntKind.wrap_i64];omega)|(intro j hj;by_cases hji:j<s1.length;(focus(simp only[ysf hji,ywh hji,cond_true];first|(first|done|fail)|with_reducible rfl));(have e0:j-s1.length=0:=by omega);(simp only[ypf hji hj,ybj hji,cond_false,e0,elt,borrowL,borrow];first|(first|done|fail)|with_reducible rfl))|decide));first|done|fail):p:=h
set_option maxHeartbeats 2000000 in
set_option maxRecDepth 20000 in
theorem den (a0:(List Int)) (a1:Int) (hp0:a0.length<=1048576) (hp1:0<=a1) (hp2:a1<=1048576):Den Tryz.prog 120 [encL 1 eIu8 a0,.int .i64 a1] (ownL 112 2 yn (zec a0 a1)):=by
 generalize hR:zec a0 a1=r;unfold zec at hR;refine di Tryz.func120 Tryz.ntmps120 Tryz.results120 ?_;intro c hL hc hk;obtain⟨hL0,hL1,_⟩:=hL;have hw0:a0.length<9223372036854775808:=Nat.lt_succ_of_le (yc hL0).1;clear hL0 hL1;simp only[pars,Nat.zero_add];iterate 3 refine rS ?_
 refine AWP.block ?_;generalize hz1:ye (yei a0 a1) (a0.length-0) 0 ([]:List Phase)=z1 at hR;refine AWP.range (yei a0 a1) (fun i1 s1=>⟨[(0,encL 1 eIu8 a0),(1,.int .i64 a1),(5,.ref 0 2 0 s1.length),(6,.int .i64 (i1:Int))],[.arr 112 2 s1.length (fun j=>yn (s1.getD j default))]⟩) (fun i1 s1=>s1.length<=([]:List Phase).length+1 * i1/\s1.length<=i1) (a0.length) 0 ([]:List Phase) [0] hz1 ot wt sm ?_;clear hz1;intro i1 s1 hi1 hW1 hz1;refine rS ?_;refine AWP.cond rfl (fun hb => ?_) (fun hb => ?_)
 ·have hlt1:i1<a0.length:=ot
  rw[yg hlt1]at hz1;simp only[yei]at hz1;iterate 2 refine rS ?_
  refine AWP.cond rfl (fun hb => ?_) (fun hb => ?_)
  ·simp only[hb,cond_true]at hz1
   iterate 2 refine rS ?_
   exact⟨_,[0],hlt1,wt,hz1,sm⟩
  ·simp only[hb,cond_false]at hz1
   iterate 2 refine rS ?_
   exact⟨_,[2],hlt1,wt,hz1,sm⟩
 ·obtain rfl:i1=a0.length:=ot
  rw[yh (Nat.le_refl _)]at hz1;subst hz1;dsimp only at hR;refine AWP.exit ?_;refine yb ?_;refine rS ?_;refine AWP.ret ?_;subst hR;exact es
end N120
def D_zec : DF
 | [x0,x1]=>some (ownL 112 2 yn (zec (rdL dIu8 x0) (rdI x1)),false,[wL 1 eIu8 dIu8 x0,wI .i64 x1,(rdL dIu8 x0).length<=1048576,0<=(rdI x1),(rdI x1)<=1048576])
 | _=>none
theorem yay:OkD Tryz.prog 120 D_zec:=by unfold D_zec;exact dk N120.den
def y0o (a0:(List Int)) (i1:Nat) (s1:Int):Except (Int) (Int):=
 .ok (IntKind.wrap .i64 (s1+(a0.getD i1 default)))
def zwc (a0:(List Int)):Int:=
 (bif ((a0.length:Int) == 0)then 1 else(match ye (y0o a0) (a0.length-0) 0 0 with|.error e=>e|.ok s1=>s1))
namespace N116
theorem DD:DOk Tryz.prog (Go.Ab.DD []):=yj _
theorem den (a0:(List Int))  : Den Tryz.prog 116 [encL 1 yi a0] (.int .i64 (zwc a0)):=by
 generalize hR:zwc a0=r;unfold zwc at hR;refine di Tryz.func116 Tryz.ntmps116 Tryz.results116 ?_;intro c hL hc hk;obtain⟨hL0,_⟩:=hL;have hw0:a0.length<9223372036854775808:=Nat.lt_succ_of_le (yc hL0).1;clear hL0;simp only[pars,Nat.zero_add];iterate 2 refine rS ?_
 refine AWP.cond rfl (fun hb => ?_) (fun hb => ?_)
 ·replace hR:=ct hR
  refine rS ?_;refine AWP.ret ?_;subst hR;exact es
 ·replace hR:=cf hR
  iterate 2 refine rS ?_
  refine AWP.block ?_;generalize hz1:ye (y0o a0) (a0.length-0) 0 0=z1 at hR;refine AWP.range (y0o a0) (fun i1 s1=>⟨[(0,encL 1 yi a0),(3,.int .i64 s1),(4,.int .i64 (i1:Int))],[]⟩) (fun i1 s1=>True) (a0.length) 0 0 [] hz1 ot wt sm ?_;clear hz1;intro i1 s1 hi1 hW1 hz1;refine rS ?_;refine AWP.cond rfl (fun hb => ?_) (fun hb => ?_)
  ·have hlt1:i1<a0.length:=ot
   rw[yg hlt1]at hz1;simp only[y0o]at hz1;iterate 2 refine rS ?_
   exact⟨_,[],hlt1,wt,hz1,sm⟩
  ·obtain rfl:i1=a0.length:=ot
   rw[yh (Nat.le_refl _)]at hz1;subst hz1;dsimp only at hR;refine AWP.exit ?_;refine yb ?_;refine rS ?_;refine AWP.ret ?_;subst hR;exact es
end N116
def D_zwc : DF
 | [x0]=>some (.int .i64 (zwc (rdL ydb x0)),false,[wL 1 yi ydb x0])
 | _=>none
theorem yqw:OkD Tryz.prog 116 D_zwc:=by unfold D_zwc;exact dk N116.den
def zd (a0:Int) (a1:Int) (a2:Int):Bool:=
 (decide (a1<=a0) && decide (a0<=a2))
namespace N37
theorem DD:DOk Tryz.prog (Go.Ab.DD []):=yj _
theorem den (a0:Int) (a1:Int) (a2:Int)  : Den Tryz.prog 37 [.int .i64 a0,.int .i64 a1,.int .i64 a2] (.bool (zd a0 a1 a2)):=by
 generalize hR:zd a0 a1 a2=r;unfold zd at hR;refine di Tryz.func37 Tryz.ntmps37 Tryz.results37 ?_;intro c hL hc hk;clear hL;simp only[pars,Nat.zero_add];iterate 2 refine rS ?_
 refine AWP.ret ?_;subst hR;exact es
end N37
def D_zd : DF
 | [x0,x1,x2]=>some (.bool (zd (rdI x0) (rdI x1) (rdI x2)),false,[wI .i64 x0,wI .i64 x1,wI .i64 x2])
 | _=>none
theorem y4f:OkD Tryz.prog 37 D_zd:=by unfold D_zd;exact dk N37.den
def y0n (a0:(List Int)) (i1:Nat) (s1:Unit):Except (Bool) (Unit):=
 (bif (!(zd (a0.getD i1 default) 1 9))then .error false else .ok ())
def zhc (a0:(List Int)):Bool:=
 (match ye (y0n a0) (a0.length-0) 0 ()with|.error e=>e|.ok s1=>((decide ((a0.length:Int)<=4) && (!(((a0.length:Int) == 1) && ((a0.getD 0 default) == 1)))) && decide ((zwc a0)<=12)))
namespace N88
theorem DD:DOk Tryz.prog (Go.Ab.DD [(116,dP D_zwc),(37,dP D_zd)]):=yd yqw.e <| yd y4f.e <| yj _
theorem dn:type_of% (And.intro @D_zwc.eq_1 <| @D_zd.eq_1):=by and_intros<;>intros<;>rfl
theorem ol:type_of% (@zd.eq_1):=@zd.eq_1
theorem den (a0:(List Int))  : Den Tryz.prog 88 [encL 1 yi a0] (.bool (zhc a0)):=by
 generalize hR:zhc a0=r;unfold zhc at hR;refine di Tryz.func88 Tryz.ntmps88 Tryz.results88 ?_;intro c hL hc hk;obtain⟨hL0,_⟩:=hL;have hw0:a0.length<9223372036854775808:=Nat.lt_succ_of_le (yc hL0).1;clear hL0;simp only[pars,Nat.zero_add];iterate 2 refine rS ?_
 refine AWP.block ?_;generalize hz1:ye (y0n a0) (a0.length-0) 0 ()=z1 at hR;refine AWP.range (y0n a0) (fun i1 s1=>⟨[(0,encL 1 yi a0),(3,.int .i64 (i1:Int))],[]⟩) (fun i1 s1=>True) (a0.length) 0 () [] hz1 ot wt sm ?_;clear hz1;intro i1 s1 hi1 hW1 hz1;refine rS ?_;refine AWP.cond rfl (fun hb => ?_) (fun hb => ?_)
 ·have hlt1:i1<a0.length:=ot
  rw[yg hlt1]at hz1;simp only[y0n]at hz1;refine rS ?_;refine AWP.cond rfl (fun hb => ?_) (fun hb => ?_)
  ·simp only[hb,cond_true]at hz1
   refine rS ?_;refine AWP.ret ?_;subst hz1;dsimp only at hR;subst hR;exact es
  ·simp only[hb,cond_false]at hz1
   refine rS ?_;exact⟨_,[],hlt1,wt,hz1,sm⟩
 ·obtain rfl:i1=a0.length:=ot
  rw[yh (Nat.le_refl _)]at hz1;subst hz1;dsimp only at hR;refine AWP.exit ?_;refine yb ?_;refine rS ?_;refine AWP.ret ?_;subst hR;exact es
end N88
def D_zhc : DF
 | [x0]=>some (.bool (zhc (rdL ydb x0)),false,[wL 1 yi ydb x0])
 | _=>none
theorem yiy:OkD Tryz.prog 88 D_zhc:=by unfold D_zhc;exact dk N88.den
def zld (a0:Int):Bool:=
 (zd a0 1 8)
namespace N86
theorem DD:DOk Tryz.prog (Go.Ab.DD [(37,dP D_zd)]):=yd y4f.e <| yj _
theorem dn:type_of% (@D_zd.eq_1):=by and_intros<;>intros<;>rfl
theorem ol:type_of% (@zd.eq_1):=@zd.eq_1
theorem den (a0:Int)  : Den Tryz.prog 86 [.int .i64 a0] (.bool (zld a0)):=by
 generalize hR:zld a0=r;unfold zld at hR;refine di Tryz.func86 Tryz.ntmps86 Tryz.results86 ?_;intro c hL hc hk;clear hL;simp only[pars,Nat.zero_add];iterate 2 refine rS ?_
 refine AWP.ret ?_;subst hR;exact es
end N86
def D_zld : DF
 | [x0]=>some (.bool (zld (rdI x0)),false,[wI .i64 x0])
 | _=>none
theorem ytx:OkD Tryz.prog 86 D_zld:=by unfold D_zld;exact dk N86.den
def ztc (a0:Int):Int:=
 (bif (a0 == 87)then 1 else(bif (a0 == 82)then 2 else(bif (a0 == 71)then 3 else(bif (a0 == 89)then 4 else 0))))
namespace N115
theorem DD:DOk Tryz.prog (Go.Ab.DD []):=yj _
theorem den (a0:Int)  : Den Tryz.prog 115 [.int .u8 a0] (.int .i64 (ztc a0)):=by
 generalize hR:ztc a0=r;unfold ztc at hR;refine di Tryz.func115 Tryz.ntmps115 Tryz.results115 ?_;intro c hL hc hk;clear hL;simp only[pars,Nat.zero_add];iterate 3 refine rS ?_
 refine AWP.cond rfl (fun hb => ?_) (fun hb => ?_)
 ·replace hR:=ct hR
  refine rS ?_;refine AWP.ret ?_;subst hR;exact es
 ·replace hR:=cf hR
  refine rS ?_;refine AWP.cond rfl (fun hb => ?_) (fun hb => ?_)
  ·replace hR:=ct hR
   refine rS ?_;refine AWP.ret ?_;subst hR;exact es
  ·replace hR:=cf hR
   refine rS ?_;refine AWP.cond rfl (fun hb => ?_) (fun hb => ?_)
   ·replace hR:=ct hR
    refine rS ?_;refine AWP.ret ?_;subst hR;exact es
   ·replace hR:=cf hR
    refine rS ?_;refine AWP.cond rfl (fun hb => ?_) (fun hb => ?_)
    ·replace hR:=ct hR
     refine rS ?_;refine AWP.ret ?_;subst hR;exact es
    ·replace hR:=cf hR
     refine rS ?_;refine AWP.ret ?_;subst hR;exact es
end N115
def D_ztc : DF
 | [x0]=>some (.int .i64 (ztc (rdI x0)),false,[wI .u8 x0])
 | _=>none
theorem yux:OkD Tryz.prog 115 D_ztc:=by unfold D_ztc;exact dk N115.den
def ypk (a0:(List UInt8)) (i1:Nat) (s1:Unit):Except (Bool) (Unit):=
 (bif (((ztc ((a0.getD i1 0).toNat:Int)) == 0) || (decide (0<(i1:Int)) && decide ((ztc ((a0.getD i1 0).toNat:Int))<=(ztc ((a0.getD ((IntKind.wrap .i64 ((i1:Int)-1)).toNat) 0).toNat:Int)))))then .error false else .ok ())
def zwb (a0:(List UInt8)):Bool:=
 (match ye (ypk a0) (a0.length-0) 0 ()with|.error e=>e|.ok s1=>(decide (1<=(a0.length:Int)) && decide ((a0.length:Int)<=3)))
namespace N87
theorem DD:DOk Tryz.prog (Go.Ab.DD [(115,dP D_ztc)]):=yd yux.e <| yj _
theorem dn:type_of% (@D_ztc.eq_1):=by and_intros<;>intros<;>rfl
theorem den (a0:(List UInt8))  : Den Tryz.prog 87 [.str a0] (.bool (zwb a0)):=by
 generalize hR:zwb a0=r;unfold zwb at hR;refine di Tryz.func87 Tryz.ntmps87 Tryz.results87 ?_;intro c hL hc hk;obtain⟨hL0,_⟩:=hL;have hw0:a0.length<9223372036854775808:=Nat.lt_succ_of_le hL0;clear hL0;simp only[pars,Nat.zero_add];iterate 2 refine rS ?_
 refine AWP.block ?_;generalize hz1:ye (ypk a0) (a0.length-0) 0 ()=z1 at hR;refine AWP.range (ypk a0) (fun i1 s1=>⟨[(0,.str a0),(3,.int .i64 (i1:Int))],[]⟩) (fun i1 s1=>True) (a0.length) 0 () [] hz1 ot wt sm ?_;clear hz1;intro i1 s1 hi1 hW1 hz1;refine rS ?_;refine AWP.cond rfl (fun hb => ?_) (fun hb => ?_)
 ·have hlt1:i1<a0.length:=ot
  rw[yg hlt1]at hz1;simp only[ypk]at hz1;refine rD 21 ?_;refine AWP.cond rfl (fun hb => ?_) (fun hb => ?_)
  ·simp only[hb,cond_true]at hz1
   refine rS ?_;refine AWP.ret ?_;subst hz1;dsimp only at hR;subst hR;exact es
  ·simp only[hb,cond_false]at hz1
   refine rS ?_;exact⟨_,[],hlt1,wt,hz1,sm⟩
 ·obtain rfl:i1=a0.length:=ot
  rw[yh (Nat.le_refl _)]at hz1;subst hz1;dsimp only at hR;refine AWP.exit ?_;refine yb ?_;refine rS ?_;refine AWP.ret ?_;subst hR;exact es
end N87
def D_zwb : DF
 | [x0]=>some (.bool (zwb (rdS x0)),false,[wS x0])
 | _=>none
theorem y4w:OkD Tryz.prog 87 D_zwb:=by unfold D_zwb;exact dk N87.den
def zoc (a0:Character):Bool:=
 (bif ((!(zld a0.Kind)) || (!(zwb a0.Colors)))then false else(bif (a0.Kind == 1)then(((a0.Group.length:Int) == 0) && (a0.Letter == []))else(bif (a0.Kind == 3)then(((a0.Group.length:Int) == 0) && (a0.Letter == []))else(bif (a0.Kind == 6)then(bif (a0.Letter == [76])then(((a0.Group.length:Int) == 1) && ((a0.Group.getD 0 default) == 6))else(((a0.Letter == []) && decide ((a0.Group.length:Int)<=1)) && (zhc a0.Group)))else(bif (a0.Kind == 7)then(bif (a0.Letter == [76])then(((a0.Group.length:Int) == 1) && ((a0.Group.getD 0 default) == 6))else(((a0.Letter == []) && decide ((a0.Group.length:Int)<=1)) && (zhc a0.Group)))else(bif (a0.Kind == 8)then(((((a0.Group.length:Int) == 0) && ((a0.Letter.length:Int) == 1)) && decide (65<=((a0.Letter.getD 0 0).toNat:Int))) && decide (((a0.Letter.getD 0 0).toNat:Int)<=90))else((a0.Letter == []) && (zhc a0.Group))))))))
namespace N60
theorem DD:DOk Tryz.prog (Go.Ab.DD [(86,dP D_zld),(87,dP D_zwb),(88,dP D_zhc)]):=yd ytx.e <| yd y4w.e <| yd yiy.e <| yj _
theorem dn:type_of% (And.intro @D_zld.eq_1 <| And.intro @D_zwb.eq_1 <| @D_zhc.eq_1):=by and_intros<;>intros<;>rfl
theorem den (a0:Character)  : Den Tryz.prog 60 [.ep (eCharacter a0)] (.bool (zoc a0)):=by
 generalize hR:zoc a0=r;unfold zoc at hR;refine di Tryz.func60 Tryz.ntmps60 Tryz.results60 ?_;intro c hL hc hk;obtain⟨hL0,_⟩:=hL;have hw0:bwCharacter a0:=yf a0 hL0;clear hL0;simp only[pars,Nat.zero_add];iterate 2 refine rS ?_
 refine AWP.cond rfl (fun hb => ?_) (fun hb => ?_)
 ·replace hR:=ct hR
  refine rS ?_;refine AWP.ret ?_;subst hR;exact es
 ·replace hR:=cf hR
  iterate 2 refine rS ?_
  refine AWP.cond rfl (fun hb => ?_) (fun hb => ?_)
  ·replace hR:=ct hR
   refine AWP.skip ?_;refine AWP.cond rfl (fun hb => ?_) (fun hb => ?_)
   ·refine rS ?_
    refine AWP.ret ?_;subst hR;exact es
   ·exfalso;simp_all
  ·replace hR:=cf hR
   refine rS ?_;refine AWP.cond rfl (fun hb => ?_) (fun hb => ?_)
   ·replace hR:=ct hR
    refine rS ?_;refine AWP.ret ?_;subst hR;exact es
   ·replace hR:=cf hR
    refine rS ?_;refine AWP.cond rfl (fun hb => ?_) (fun hb => ?_)
    ·replace hR:=ct hR
     refine AWP.skip ?_;refine AWP.cond rfl (fun hb => ?_) (fun hb => ?_)
     ·refine rS ?_
      refine AWP.cond rfl (fun hb => ?_) (fun hb => ?_)
      ·replace hR:=ct hR
       refine rS ?_;refine AWP.ret ?_;subst hR;exact es
      ·replace hR:=cf hR
       refine rS ?_;refine AWP.ret ?_;subst hR;exact es
     ·exfalso;simp_all
    ·replace hR:=cf hR
     refine rS ?_;refine AWP.cond rfl (fun hb => ?_) (fun hb => ?_)
     ·replace hR:=ct hR
      refine rS ?_;refine AWP.cond rfl (fun hb => ?_) (fun hb => ?_)
      ·replace hR:=ct hR
       refine rS ?_;refine AWP.ret ?_;subst hR;exact es
      ·replace hR:=cf hR
       refine rS ?_;refine AWP.ret ?_;subst hR;exact es
     ·replace hR:=cf hR
      refine rS ?_;refine AWP.cond rfl (fun hb => ?_) (fun hb => ?_)
      ·replace hR:=ct hR
       refine rS ?_;refine AWP.ret ?_;subst hR;exact es
      ·replace hR:=cf hR
       refine rS ?_;refine AWP.ret ?_;subst hR;exact es
end N60
def D_zoc : DF
 | [x0]=>some (.bool (zoc (rdP ya x0)),false,[wP eCharacter ya x0])
 | _=>none
theorem ybx:OkD Tryz.prog 60 D_zoc:=by unfold D_zoc;exact dk N60.den
def y9h (a0:Int) (i1:Nat) (s1:List Int):Except ((List Int)) (List Int):=
 (bif ((((([[46,45],[45,46,46,46],[45,46,45,46],[45,46,46],[46],[46,46,45,46],[45,45,46],[46,46,46,46],[46,46],[46,45,45,45],[45,46,45],[46,45,46,46],[45,45],[45,46],[45,45,45],[46,45,45,46],[45,45,46,45],[46,45,46],[46,46,46],[45],[46,46,45],[46,46,46,45],[46,45,45],[45,46,46,45],[45,46,45,45],[45,45,46,46]]:List (List UInt8)).getD ((IntKind.wrap .u8 (a0-65)).toNat) default).getD i1 0).toNat:Int) == 46)then .ok (s1++([5]:List Int))else .ok (s1++([15]:List Int)))
def zbb (a0:Int):(List Int):=
 (match ye (y9h a0) (((([[46,45],[45,46,46,46],[45,46,45,46],[45,46,46],[46],[46,46,45,46],[45,45,46],[46,46,46,46],[46,46],[46,45,45,45],[45,46,45],[46,45,46,46],[45,45],[45,46],[45,45,45],[46,45,45,46],[45,45,46,45],[46,45,46],[46,46,46],[45],[46,46,45],[46,46,46,45],[46,45,45],[45,46,46,45],[45,46,45,45],[45,45,46,46]]:List (List UInt8)).getD ((IntKind.wrap .u8 (a0-65)).toNat) default).length)-0) 0 ([]:List Int)with|.error e=>e|.ok s1=>s1)
namespace N117
theorem DD:DOk Tryz.prog (Go.Ab.DD []):=yj _
theorem lx {p:Prop} (h:p:=by(exact lxx);first|done|fail):p:=h
theorem den (a0:Int) (hp0:65<=a0) (hp1:a0<=90):Den Tryz.prog 117 [.int .u8 a0] (ownL 2 1 yi (zbb a0)):=by
 generalize hR:zbb a0=r;unfold zbb at hR;refine di Tryz.func117 Tryz.ntmps117 Tryz.results117 ?_;intro c hL hc hk;clear hL;simp only[pars,Nat.zero_add];have hs9:=y3x (IntKind.wrap .u8 (a0-65)).toNat;have hw9:IntKind.wrap .u8 (a0-65)=a0-65:=ygj _ (by omega) (by omega);iterate 5 refine rS ?_
 refine AWP.block ?_;generalize hz1:ye (y9h a0) (((([[46,45],[45,46,46,46],[45,46,45,46],[45,46,46],[46],[46,46,45,46],[45,45,46],[46,46,46,46],[46,46],[46,45,45,45],[45,46,45],[46,45,46,46],[45,45],[45,46],[45,45,45],[46,45,45,46],[45,45,46,45],[46,45,46],[46,46,46],[45],[46,46,45],[46,46,46,45],[46,45,45],[45,46,46,45],[45,46,45,45],[45,45,46,46]]:List (List UInt8)).getD ((IntKind.wrap .u8 (a0-65)).toNat) default).length)-0) 0 ([]:List Int)=z1 at hR;refine AWP.range (y9h a0) (fun i1 s1=>⟨[(4,.str (([[46,45],[45,46,46,46],[45,46,45,46],[45,46,46],[46],[46,46,45,46],[45,45,46],[46,46,46,46],[46,46],[46,45,45,45],[45,46,45],[46,45,46,46],[45,45],[45,46],[45,45,45],[46,45,45,46],[45,45,46,45],[46,45,46],[46,46,46],[45],[46,46,45],[46,46,46,45],[46,45,45],[45,46,46,45],[45,46,45,45],[45,45,46,46]]:List (List UInt8)).getD ((IntKind.wrap .u8 (a0-65)).toNat) default)),(5,.ref 0 1 0 s1.length),(6,.int .i64 (i1:Int))],[.arr 2 1 s1.length (fun j=>yi (s1.getD j default))]⟩) (fun i1 s1=>s1.length<=([]:List Int).length+1 * i1/\s1.length<=i1) (((([[46,45],[45,46,46,46],[45,46,45,46],[45,46,46],[46],[46,46,45,46],[45,45,46],[46,46,46,46],[46,46],[46,45,45,45],[45,46,45],[46,45,46,46],[45,45],[45,46],[45,45,45],[46,45,45,46],[45,45,46,45],[46,45,46],[46,46,46],[45],[46,46,45],[46,46,46,45],[46,45,45],[45,46,46,45],[45,46,45,45],[45,45,46,46]]:List (List UInt8)).getD ((IntKind.wrap .u8 (a0-65)).toNat) default).length)) 0 ([]:List Int) [1] hz1 ot wt sm ?_;clear hz1;intro i1 s1 hi1 hW1 hz1;refine rS ?_;refine AWP.cond rfl (fun hb => ?_) (fun hb => ?_)
 ·have hlt1:i1<((([[46,45],[45,46,46,46],[45,46,45,46],[45,46,46],[46],[46,46,45,46],[45,45,46],[46,46,46,46],[46,46],[46,45,45,45],[45,46,45],[46,45,46,46],[45,45],[45,46],[45,45,45],[46,45,45,46],[45,45,46,45],[46,45,46],[46,46,46],[45],[46,46,45],[46,46,46,45],[46,45,45],[45,46,46,45],[45,46,45,45],[45,45,46,46]]:List (List UInt8)).getD ((IntKind.wrap .u8 (a0-65)).toNat) default).length):=ot
  rw[yg hlt1]at hz1;simp only[y9h]at hz1;refine rS ?_;refine AWP.cond rfl (fun hb => ?_) (fun hb => ?_)
  ·simp only[hb,cond_true]at hz1
   iterate 2 refine rS ?_
   exact⟨_,[2],hlt1,wt,hz1,sm⟩
  ·simp only[hb,cond_false]at hz1
   iterate 2 refine rS ?_
   exact⟨_,[2],hlt1,wt,hz1,sm⟩
 ·obtain rfl:i1=((([[46,45],[45,46,46,46],[45,46,45,46],[45,46,46],[46],[46,46,45,46],[45,45,46],[46,46,46,46],[46,46],[46,45,45,45],[45,46,45],[46,45,46,46],[45,45],[45,46],[45,45,45],[46,45,45,46],[45,45,46,45],[46,45,46],[46,46,46],[45],[46,46,45],[46,46,46,45],[46,45,45],[45,46,46,45],[45,46,45,45],[45,45,46,46]]:List (List UInt8)).getD ((IntKind.wrap .u8 (a0-65)).toNat) default).length):=ot
  rw[yh (Nat.le_refl _)]at hz1;subst hz1;dsimp only at hR;refine AWP.exit ?_;refine yb ?_;refine rS ?_;refine AWP.ret ?_;subst hR;exact es
end N117
def D_zbb : DF
 | [x0]=>some (ownL 2 1 yi (zbb (rdI x0)),false,[wI .u8 x0,65<=(rdI x0),(rdI x0)<=90])
 | _=>none
theorem y5w:OkD Tryz.prog 117 D_zbb:=by unfold D_zbb;exact dk N117.den
theorem y6j (a:Int):zbb a=(y0c.getD (IntKind.wrap .u8 (a-65)).toNat default).map (fun c=>if c=46 then(5:Int)else 15):=by
 have h:=ywo (y9h a) (fun j=>[if((y0c.getD (IntKind.wrap .u8 (a-65)).toNat default).getD j 0)=46 then(5:Int)else 15]) (y0c.getD (IntKind.wrap .u8 (a-65)).toNat default).length 0 [] (fun j s _ _=>by
  show(bif ((((y0c.getD (IntKind.wrap .u8 (a-65)).toNat default).getD j 0).toNat:Int) == 46)then(.ok (s++[5]):Except (List Int) (List Int))else .ok (s++[15]))=_;generalize (y0c.getD (IntKind.wrap .u8 (a-65)).toNat default).getD j 0=c;by_cases hc:c=46
  ·subst hc;rfl
  ·have:((c.toNat:Int) == 46)=false:=by
    rw[beq_eq_false_iff_ne];intro h;exact hc (UInt8.toNat_inj.1 (by show c.toNat=46;omega))
   rw[this,if_neg hc];rfl)
 have e:zbb a=(match ye (y9h a) (y0c.getD (IntKind.wrap .u8 (a-65)).toNat default).length 0 ([]:List Int)with|.error e=>e|.ok s1=>s1):=rfl;rw[e,h];simp only[List.nil_append];exact yyu _ 0 (fun c=>if c=46 then(5:Int)else 15)
theorem ycp (a:Int):(zbb a).length<=4:=by
 rw[y6j,List.length_map];exact yxj _
def zhb (a0:Character):Bool:=
 ((a0.Kind == 1) || (((a0.Kind == 6) || (a0.Kind == 7)) && ((a0.Group.length:Int) == 0)))
namespace N61
theorem DD:DOk Tryz.prog (Go.Ab.DD []):=yj _
theorem den (a0:Character)  : Den Tryz.prog 61 [.ep (eCharacter a0)] (.bool (zhb a0)):=by
 generalize hR:zhb a0=r;unfold zhb at hR;refine di Tryz.func61 Tryz.ntmps61 Tryz.results61 ?_;intro c hL hc hk;obtain⟨hL0,_⟩:=hL;have hw0:bwCharacter a0:=yf a0 hL0;clear hL0;simp only[pars,Nat.zero_add];iterate 2 refine rS ?_
 refine AWP.ret ?_;subst hR;exact es
end N61
def D_zhb : DF
 | [x0]=>some (.bool (zhb (rdP ya x0)),false,[wP eCharacter ya x0])
 | _=>none
theorem yvm:OkD Tryz.prog 61 D_zhb:=by unfold D_zhb;exact dk N61.den
def y4n (a0:(List Int)) (i1:Nat) (s1:Int):Except (Int) (Int):=
 .ok (IntKind.wrap .i64 (s1+(a0.getD i1 default)))
def zcb (a0:(List Int)):Int:=
 (match ye (y4n a0) (a0.length-0) 0 0 with|.error e=>e|.ok s1=>s1)
namespace N89
theorem DD:DOk Tryz.prog (Go.Ab.DD []):=yj _
theorem den (a0:(List Int))  : Den Tryz.prog 89 [encL 1 yi a0] (.int .i64 (zcb a0)):=by
 generalize hR:zcb a0=r;unfold zcb at hR;refine di Tryz.func89 Tryz.ntmps89 Tryz.results89 ?_;intro c hL hc hk;obtain⟨hL0,_⟩:=hL;have hw0:a0.length<9223372036854775808:=Nat.lt_succ_of_le (yc hL0).1;clear hL0;simp only[pars,Nat.zero_add];iterate 3 refine rS ?_
 refine AWP.block ?_;generalize hz1:ye (y4n a0) (a0.length-0) 0 0=z1 at hR;refine AWP.range (y4n a0) (fun i1 s1=>⟨[(0,encL 1 yi a0),(3,.int .i64 s1),(4,.int .i64 (i1:Int))],[]⟩) (fun i1 s1=>True) (a0.length) 0 0 [] hz1 ot wt sm ?_;clear hz1;intro i1 s1 hi1 hW1 hz1;refine rS ?_;refine AWP.cond rfl (fun hb => ?_) (fun hb => ?_)
 ·have hlt1:i1<a0.length:=ot
  rw[yg hlt1]at hz1;simp only[y4n]at hz1;iterate 2 refine rS ?_
  exact⟨_,[],hlt1,wt,hz1,sm⟩
 ·obtain rfl:i1=a0.length:=ot
  rw[yh (Nat.le_refl _)]at hz1;subst hz1;dsimp only at hR;refine AWP.exit ?_;refine yb ?_;refine rS ?_;refine AWP.ret ?_;subst hR;exact es
end N89
def D_zcb : DF
 | [x0]=>some (.int .i64 (zcb (rdL ydb x0)),false,[wL 1 yi ydb x0])
 | _=>none
theorem ylr:OkD Tryz.prog 89 D_zcb:=by unfold D_zcb;exact dk N89.den
def zsb (a0:Int):Int:=
 (bif (a0 == 2)then 10 else(bif (a0 == 5)then 20 else(bif (a0 == 7)then 2 else 5)))
namespace N118
theorem DD:DOk Tryz.prog (Go.Ab.DD []):=yj _
theorem den (a0:Int)  : Den Tryz.prog 118 [.int .i64 a0] (.int .i64 (zsb a0)):=by
 generalize hR:zsb a0=r;unfold zsb at hR;refine di Tryz.func118 Tryz.ntmps118 Tryz.results118 ?_;intro c hL hc hk;clear hL;simp only[pars,Nat.zero_add];iterate 3 refine rS ?_
 refine AWP.cond rfl (fun hb => ?_) (fun hb => ?_)
 ·replace hR:=ct hR
  refine rS ?_;refine AWP.ret ?_;subst hR;exact es
 ·replace hR:=cf hR
  refine rS ?_;refine AWP.cond rfl (fun hb => ?_) (fun hb => ?_)
  ·replace hR:=ct hR
   refine rS ?_;refine AWP.ret ?_;subst hR;exact es
  ·replace hR:=cf hR
   refine rS ?_;refine AWP.cond rfl (fun hb => ?_) (fun hb => ?_)
   ·replace hR:=ct hR
    refine rS ?_;refine AWP.ret ?_;subst hR;exact es
   ·replace hR:=cf hR
    refine rS ?_;refine AWP.ret ?_;subst hR;exact es
end N118
def D_zsb : DF
 | [x0]=>some (.int .i64 (zsb (rdI x0)),false,[wI .i64 x0])
 | _=>none
theorem ygy:OkD Tryz.prog 118 D_zsb:=by unfold D_zsb;exact dk N118.den
def zu (a0:Int):Int:=
 (bif (a0 == 2)then 10 else(bif (a0 == 4)then 15 else(bif (a0 == 5)then 20 else(bif (a0 == 7)then 3 else 5))))
namespace N93
theorem DD:DOk Tryz.prog (Go.Ab.DD []):=yj _
theorem den (a0:Int)  : Den Tryz.prog 93 [.int .i64 a0] (.int .i64 (zu a0)):=by
 generalize hR:zu a0=r;unfold zu at hR;refine di Tryz.func93 Tryz.ntmps93 Tryz.results93 ?_;intro c hL hc hk;clear hL;simp only[pars,Nat.zero_add];iterate 3 refine rS ?_
 refine AWP.cond rfl (fun hb => ?_) (fun hb => ?_)
 ·replace hR:=ct hR
  refine rS ?_;refine AWP.ret ?_;subst hR;exact es
 ·replace hR:=cf hR
  refine rS ?_;refine AWP.cond rfl (fun hb => ?_) (fun hb => ?_)
  ·replace hR:=ct hR
   refine rS ?_;refine AWP.ret ?_;subst hR;exact es
  ·replace hR:=cf hR
   refine rS ?_;refine AWP.cond rfl (fun hb => ?_) (fun hb => ?_)
   ·replace hR:=ct hR
    refine rS ?_;refine AWP.ret ?_;subst hR;exact es
   ·replace hR:=cf hR
    refine rS ?_;refine AWP.cond rfl (fun hb => ?_) (fun hb => ?_)
    ·replace hR:=ct hR
     refine rS ?_;refine AWP.ret ?_;subst hR;exact es
    ·replace hR:=cf hR
     refine rS ?_;refine AWP.ret ?_;subst hR;exact es
end N93
def D_zu : DF
 | [x0]=>some (.int .i64 (zu (rdI x0)),false,[wI .i64 x0])
 | _=>none
theorem yhq:OkD Tryz.prog 93 D_zu:=by unfold D_zu;exact dk N93.den
def yyk (a0:Character) (i1:Nat) (s1:List Int):Except ((List Int)) (List Int):=
 (bif decide (0<(i1:Int))then .ok ((s1++([5]:List Int))++([((zbb ((a0.Letter.getD 0 0).toNat:Int)).getD i1 default)]:List Int))else .ok (s1++([((zbb ((a0.Letter.getD 0 0).toNat:Int)).getD i1 default)]:List Int)))
def yjk (a0:Character) (i2:Nat) (s2:List Int) (i3:Nat) (s3:List Int):Except ((List Int)) (List Int):=
 (bif decide (0<(i3:Int))then .ok ((s3++([(zu a0.Kind)]:List Int))++([(zsb a0.Kind)]:List Int))else(bif decide (0<(i2:Int))then .ok ((s3++([IntKind.wrap .i64 ((zu a0.Kind)+20)]:List Int))++([(zsb a0.Kind)]:List Int))else .ok (s3++([(zsb a0.Kind)]:List Int))))
def yyh (a0:Character) (i2:Nat) (s2:List Int):Except ((List Int)) (List Int):=
 (match ye (yjk a0 i2 s2) (((([1]:List Int).getD i2 default)).toNat-0) 0 s2 with|.error e=>.error e|.ok s3=>.ok s3)
def ywk (a0:Character) (i4:Nat) (s4:List Int) (i5:Nat) (s5:List Int):Except ((List Int)) (List Int):=
 (bif decide (0<(i5:Int))then .ok ((s5++([(zu a0.Kind)]:List Int))++([(zsb a0.Kind)]:List Int))else(bif decide (0<(i4:Int))then .ok ((s5++([IntKind.wrap .i64 ((zu a0.Kind)+20)]:List Int))++([(zsb a0.Kind)]:List Int))else .ok (s5++([(zsb a0.Kind)]:List Int))))
def y0k (a0:Character) (i4:Nat) (s4:List Int):Except ((List Int)) (List Int):=
 (match ye (ywk a0 i4 s4) (((a0.Group.getD i4 default)).toNat-0) 0 s4 with|.error e=>.error e|.ok s5=>.ok s5)
def za (a0:Character):(List Int):=
 (bif (a0.Kind == 8)then(match ye (yyk a0) (((zbb ((a0.Letter.getD 0 0).toNat:Int)).length)-0) 0 ([]:List Int)with|.error e=>e|.ok s1=>s1)else(bif ((a0.Group.length:Int) == 0)then(match ye (yyh a0) (1-0) 0 ([]:List Int)with|.error e=>e|.ok s2=>(bif (a0.Letter == [76])then s2++([(zu a0.Kind),20]:List Int)else s2))else(match ye (y0k a0) (a0.Group.length-0) 0 ([]:List Int)with|.error e=>e|.ok s4=>(bif (a0.Letter == [76])then s4++([(zu a0.Kind),20]:List Int)else s4))))
namespace N90
theorem DD:DOk Tryz.prog (Go.Ab.DD [(117,dP D_zbb),(118,dP D_zsb),(93,dP D_zu)]):=yd y5w.e <| yd ygy.e <| yd yhq.e <| yj _
theorem dn:type_of% (And.intro @D_zbb.eq_1 <| And.intro @D_zsb.eq_1 <| @D_zu.eq_1):=by and_intros<;>intros<;>rfl
theorem o2 {p:Prop} (h:p:=by(first|(and_intros<;>first|decide|omega|(simp;(first|done|fail))|(rw[IntKind.wrap_i64];have:=hg9 i4;omega)|(rw[IntKind.wrap_i64];have:=hg1 i2;omega)|(rw[IntKind.wrap_i64];omega)|(intro i hi;exact ylm _ _ i hi)|(intro i hi;exact yao _ _ _ i hi)));first|done|fail):p:=h
theorem o3 {p:Prop} (h:p:=by(first|(refine⟨⟨Nat.le_refl _,fun i hi=>y9m _ _ _ i hi⟩,.inl fun i hi=>by rw[yvi _ _ _ i hi];simp[NoBorL,NoBor],by simp,fun i hi=>by rw[yvi _ _ _ i hi];exact yp _⟩));first|done|fail):p:=h
theorem lx {p:Prop} (h:p:=by(exact lxx);first|done|fail):p:=h
set_option maxHeartbeats 1000000 in
set_option maxRecDepth 20000 in
theorem den (a0:Character) (hb0:bdCharacter a0) (hp0:a0.Group.length<=4) (hp1:∀ v∈a0.Group,v<=9) (hp2:a0.Kind=8->a0.Letter.length=1/\65<=(a0.Letter.getD 0 0).toNat/\(a0.Letter.getD 0 0).toNat<=90):Den Tryz.prog 90 [.ep (eCharacter a0)] (ownL 2 1 yi (za a0)):=by
 generalize hR:za a0=r;unfold za at hR;refine di Tryz.func90 Tryz.ntmps90 Tryz.results90 ?_;intro c hL hc hk;obtain⟨hL0,_⟩:=hL;have hw0:bwCharacter a0:=yf a0 hL0;clear hL0;simp only[pars,Nat.zero_add];have hg9:∀ i:Nat,a0.Group.getD i default<=9:=fun i=>y4m hp1 i
 have hs9:=ycp ((a0.Letter.getD 0 0).toNat:Int);have hg1:∀ i:Nat,([1]:List Int).getD i default<=9:=fun i=>y4m (by simp) i
 iterate 3 refine rS ?_
 refine AWP.cond rfl (fun hb => ?_) (fun hb => ?_)
 ·replace hR:=ct hR
  iterate 2 refine rS ?_
  refine AWP.block ?_;generalize hz1:ye (yyk a0) (((zbb ((a0.Letter.getD 0 0).toNat:Int)).length)-0) 0 ([]:List Int)=z1 at hR;refine AWP.range (yyk a0) (fun i1 s1=>⟨[(3,.ref 0 1 0 s1.length),(4,.ref 1 1 0 ((zbb ((a0.Letter.getD 0 0).toNat:Int)).length)),(5,.int .i64 (i1:Int))],[.arr 2 1 s1.length (fun j=>yi (s1.getD j default)),.arr 2 1 (zbb ((a0.Letter.getD 0 0).toNat:Int)).length (fun j=>yi ((zbb ((a0.Letter.getD 0 0).toNat:Int)).getD j default))]⟩) (fun i1 s1=>s1.length<=([]:List Int).length+2 * i1/\s1.length<=2 * i1) (((zbb ((a0.Letter.getD 0 0).toNat:Int)).length)) 0 ([]:List Int) [0,1] hz1 ot wt sm ?_;clear hz1;intro i1 s1 hi1 hW1 hz1;refine rS ?_;refine AWP.cond rfl (fun hb => ?_) (fun hb => ?_)
  ·have hlt1:i1<((zbb ((a0.Letter.getD 0 0).toNat:Int)).length):=ot
   rw[yg hlt1]at hz1;simp only[yyk]at hz1;refine rS ?_;refine AWP.cond rfl (fun hb => ?_) (fun hb => ?_)
   ·simp only[hb,cond_true]at hz1
    iterate 3 refine rS ?_
    exact⟨_,[5,1],hlt1,wt,hz1,sm⟩
   ·simp only[hb,cond_false]at hz1
    iterate 2 refine rS ?_
    exact⟨_,[3,1],hlt1,wt,hz1,sm⟩
  ·obtain rfl:i1=((zbb ((a0.Letter.getD 0 0).toNat:Int)).length):=ot
   rw[yh (Nat.le_refl _)]at hz1;subst hz1;dsimp only at hR;refine AWP.exit ?_;refine yb ?_;refine rS ?_;refine AWP.ret ?_;subst hR;exact es
 ·replace hR:=cf hR
  iterate 2 refine rS ?_
  refine AWP.cond rfl (fun hb => ?_) (fun hb => ?_)
  ·replace hR:=ct hR
   iterate 2 refine rS ?_
   refine AWP.block ?_;generalize hz2:ye (yyh a0) (1-0) 0 ([]:List Int)=z2 at hR;refine AWP.range (yyh a0) (fun i2 s2=>⟨[(0,.ep (eCharacter a0)),(3,.ref 0 1 0 s2.length),(6,.ref 1 1 0 1),(7,.int .i64 (i2:Int))],[.arr 2 1 s2.length (fun j=>yi (s2.getD j default)),.arr 2 1 ([1]:List Int).length (fun j=>yi (([1]:List Int).getD j default))]⟩) (fun i2 s2=>s2.length<=18 * i2) (1) 0 ([]:List Int) [0,1] hz2 ot wt sm ?_;clear hz2;intro i2 s2 hi2 hW2 hz2;refine rS ?_;refine AWP.cond rfl (fun hb => ?_) (fun hb => ?_)
   ·have hlt2:i2<1:=ot
    rw[yg hlt2]at hz2;simp only[yyh]at hz2;refine rS ?_;refine AWP.block ?_;generalize hz3:ye (yjk a0 i2 s2) (((([1]:List Int).getD i2 default)).toNat-0) 0 s2=z3 at hz2;refine AWP.range (yjk a0 i2 s2) (fun i3 s3=>⟨[(0,.ep (eCharacter a0)),(3,.ref 0 1 0 s3.length),(6,.ref 1 1 0 1),(7,.int .i64 (i2:Int)),(8,.int .i64 (i3:Int))],[.arr 2 1 s3.length (fun j=>yi (s3.getD j default)),.arr 2 1 ([1]:List Int).length (fun j=>yi (([1]:List Int).getD j default))]⟩) (fun i3 s3=>s3.length<=s2.length+2 * i3/\s3.length<=18 * i2+2 * i3) (((([1]:List Int).getD i2 default)).toNat) 0 s2 [0,1] hz3 ot wt sm ?_;clear hz3;intro i3 s3 hi3 hW3 hz3;refine rS ?_;refine AWP.cond rfl (fun hb => ?_) (fun hb => ?_)
    ·have hlt3:i3<((([1]:List Int).getD i2 default)).toNat:=ot
     rw[yg hlt3]at hz3;simp only[yjk]at hz3;refine rS ?_;refine AWP.cond rfl (fun hb => ?_) (fun hb => ?_)
     ·simp only[hb,cond_true]at hz3
      iterate 3 refine rS ?_
      exact⟨_,[5,1],hlt3,wt,hz3,sm⟩
     ·simp only[hb,cond_false]at hz3
      refine rS ?_;refine AWP.cond rfl (fun hb => ?_) (fun hb => ?_)
      ·simp only[hb,cond_true]at hz3
       iterate 3 refine rS ?_
       exact⟨_,[5,1],hlt3,wt,hz3,sm⟩
      ·simp only[hb,cond_false]at hz3
       iterate 2 refine rS ?_
       exact⟨_,[3,1],hlt3,wt,hz3,sm⟩
    ·obtain rfl:i3=((([1]:List Int).getD i2 default)).toNat:=ot
     rw[yh (Nat.le_refl _)]at hz3;subst hz3;dsimp only at hz2;refine AWP.exit ?_;refine yb ?_;refine rS ?_;exact⟨_,[0,1],hlt2,by(have h9:=hg1 i2;omega),hz2,sm⟩
   ·obtain rfl:i2=1:=ot
    rw[yh (Nat.le_refl _)]at hz2;subst hz2;dsimp only at hR;refine AWP.exit ?_;refine yb ?_;refine rS ?_;refine AWP.cond rfl (fun hb => ?_) (fun hb => ?_)
    ·replace hR:=ct hR
     iterate 2 refine rS ?_
     refine AWP.ret ?_;subst hR;exact es
    ·replace hR:=cf hR
     refine rS ?_;refine AWP.ret ?_;subst hR;exact es
  ·replace hR:=cf hR
   refine rS ?_;refine AWP.block ?_;refine AWP.lensS 6 rfl (fun hLn4 => ?_);generalize hz4:ye (y0k a0) (a0.Group.length-0) 0 ([]:List Int)=z4 at hR;refine AWP.range (y0k a0) (fun i4 s4=>⟨[(0,.ep (eCharacter a0)),(3,.ref 0 1 0 s4.length),(6,encL 1 yi a0.Group),(7,.int .i64 (i4:Int))],[.arr 2 1 s4.length (fun j=>yi (s4.getD j default))]⟩) (fun i4 s4=>s4.length<=18 * i4) (a0.Group.length) 0 ([]:List Int) [0] hz4 ot wt sm ?_;clear hz4;intro i4 s4 hi4 hW4 hz4;refine rS ?_;refine AWP.cond rfl (fun hb => ?_) (fun hb => ?_)
   ·have hlt4:i4<a0.Group.length:=ot
    rw[yg hlt4]at hz4;simp only[y0k]at hz4;refine rS ?_;refine AWP.block ?_;generalize hz5:ye (ywk a0 i4 s4) (((a0.Group.getD i4 default)).toNat-0) 0 s4=z5 at hz4;refine AWP.range (ywk a0 i4 s4) (fun i5 s5=>⟨[(0,.ep (eCharacter a0)),(3,.ref 0 1 0 s5.length),(6,encL 1 yi a0.Group),(7,.int .i64 (i4:Int)),(8,.int .i64 (i5:Int))],[.arr 2 1 s5.length (fun j=>yi (s5.getD j default))]⟩) (fun i5 s5=>s5.length<=s4.length+2 * i5/\s5.length<=18 * i4+2 * i5) (((a0.Group.getD i4 default)).toNat) 0 s4 [0] hz5 ot wt sm ?_;clear hz5;intro i5 s5 hi5 hW5 hz5;refine rS ?_;refine AWP.cond rfl (fun hb => ?_) (fun hb => ?_)
    ·have hlt5:i5<((a0.Group.getD i4 default)).toNat:=ot
     rw[yg hlt5]at hz5;simp only[ywk]at hz5;refine rS ?_;refine AWP.cond rfl (fun hb => ?_) (fun hb => ?_)
     ·simp only[hb,cond_true]at hz5
      iterate 3 refine rS ?_
      exact⟨_,[4],hlt5,wt,hz5,sm⟩
     ·simp only[hb,cond_false]at hz5
      refine rS ?_;refine AWP.cond rfl (fun hb => ?_) (fun hb => ?_)
      ·simp only[hb,cond_true]at hz5
       iterate 3 refine rS ?_
       exact⟨_,[4],hlt5,wt,hz5,sm⟩
      ·simp only[hb,cond_false]at hz5
       iterate 2 refine rS ?_
       exact⟨_,[2],hlt5,wt,hz5,sm⟩
    ·obtain rfl:i5=((a0.Group.getD i4 default)).toNat:=ot
     rw[yh (Nat.le_refl _)]at hz5;subst hz5;dsimp only at hz4;refine AWP.exit ?_;refine yb ?_;refine rS ?_;exact⟨_,[0],hlt4,by(have h9:=hg9 i4;omega),hz4,sm⟩
   ·obtain rfl:i4=a0.Group.length:=ot
    rw[yh (Nat.le_refl _)]at hz4;subst hz4;dsimp only at hR;refine AWP.exit ?_;refine yb ?_;refine rS ?_;refine AWP.cond rfl (fun hb => ?_) (fun hb => ?_)
    ·replace hR:=ct hR
     iterate 2 refine rS ?_
     refine AWP.ret ?_;subst hR;exact es
    ·replace hR:=cf hR
     refine rS ?_;refine AWP.ret ?_;subst hR;exact es
end N90
def D_za : DF
 | [x0]=>some (ownL 2 1 yi (za (rdP ya x0)),false,[wP eCharacter ya x0,bdCharacter (rdP ya x0),(rdP ya x0).Group.length<=4,∀ v∈(rdP ya x0).Group,v<=9,(rdP ya x0).Kind=8->(rdP ya x0).Letter.length=1/\65<=((rdP ya x0).Letter.getD 0 0).toNat/\((rdP ya x0).Letter.getD 0 0).toNat<=90])
 | _=>none
theorem ycw:OkD Tryz.prog 90 D_za:=by unfold D_za;exact dk N90.den
def zdd (a0:Character):Int:=
 (bif (a0.Kind == 6)then 20 else(bif (a0.Kind == 7)then 10 else(bif (a0.Kind == 8)then 30 else(bif decide (1<(a0.Group.length:Int))then IntKind.wrap .i64 ((IntKind.wrap .i64 ((zu a0.Kind)+5))+20)else IntKind.wrap .i64 ((zu a0.Kind)+5)))))
namespace N91
theorem DD:DOk Tryz.prog (Go.Ab.DD [(93,dP D_zu)]):=yd yhq.e <| yj _
theorem dn:type_of% (@D_zu.eq_1):=by and_intros<;>intros<;>rfl
theorem den (a0:Character)  : Den Tryz.prog 91 [.ep (eCharacter a0)] (.int .i64 (zdd a0)):=by
 generalize hR:zdd a0=r;unfold zdd at hR;refine di Tryz.func91 Tryz.ntmps91 Tryz.results91 ?_;intro c hL hc hk;obtain⟨hL0,_⟩:=hL;have hw0:bwCharacter a0:=yf a0 hL0;clear hL0;simp only[pars,Nat.zero_add];iterate 3 refine rS ?_
 refine AWP.cond rfl (fun hb => ?_) (fun hb => ?_)
 ·replace hR:=ct hR
  refine rS ?_;refine AWP.ret ?_;subst hR;exact es
 ·replace hR:=cf hR
  refine rS ?_;refine AWP.cond rfl (fun hb => ?_) (fun hb => ?_)
  ·replace hR:=ct hR
   refine rS ?_;refine AWP.ret ?_;subst hR;exact es
  ·replace hR:=cf hR
   refine rS ?_;refine AWP.cond rfl (fun hb => ?_) (fun hb => ?_)
   ·replace hR:=ct hR
    refine rS ?_;refine AWP.ret ?_;subst hR;exact es
   ·replace hR:=cf hR
    iterate 2 refine rS ?_
    refine AWP.cond rfl (fun hb => ?_) (fun hb => ?_)
    ·replace hR:=ct hR
     iterate 2 refine rS ?_
     refine AWP.ret ?_;subst hR;exact es
    ·replace hR:=cf hR
     refine rS ?_;refine AWP.ret ?_;subst hR;exact es
end N91
def D_zdd : DF
 | [x0]=>some (.int .i64 (zdd (rdP ya x0)),false,[wP eCharacter ya x0])
 | _=>none
theorem ytw:OkD Tryz.prog 91 D_zdd:=by unfold D_zdd;exact dk N91.den
end Go.Ab
