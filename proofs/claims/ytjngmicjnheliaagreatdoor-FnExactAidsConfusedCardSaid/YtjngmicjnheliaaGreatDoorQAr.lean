/- A part of a proof: walks of functions and lemmas of our own. No conditions. -/
import Derived.Test.YtjngmicjnheliaaGreatDoorQAl
import Derived.Test.YtjngmicjnheliaaGreatDoorQAn
import Derived.Test.YtjngmicjnheliaaGreatDoorQAo
set_option linter.unusedSectionVars false
set_option linter.unusedVariables false
set_option linter.unusedSimpArgs false
set_option maxHeartbeats 1000000
namespace Go.Ab
open Go Go.Proofs
def ywr (a0:(List Phase)) (i1:Nat) (s1:List Int) (i2:Nat) (s2:List Int):Except ((List Int)) (List Int):=
 .ok (s2++([((((a0.getD i1 default).Color).getD 0 0).toNat:Int)]:List Int))
def yfr (a0:(List Phase)) (i1:Nat) (s1:List Int) (i3:Nat) (s3:List Int):Except ((List Int)) (List Int):=
 .ok (s3++([0]:List Int))
def ycs (a0:(List Phase)) (i1:Nat) (s1:List Int):Except ((List Int)) (List Int):=
 (bif (((a0.getD i1 default).Color) != [])then(match yf (ywr a0 i1 s1) (((a0.getD i1 default).Length).toNat-0) 0 s1 with|.error e=>.error e|.ok s2=>.ok s2)else(match yf (yfr a0 i1 s1) (((a0.getD i1 default).Length).toNat-0) 0 s1 with|.error e=>.error e|.ok s3=>.ok s3))
def zr (a0:(List Phase)):(List Int):=
 (match yf (ycs a0) (a0.length-0) 0 ([]:List Int)with|.error e=>e|.ok s1=>s1)
namespace N143
theorem DD:DOk Tryz.prog (Go.Ab.DD []):=ye _
theorem o1 {p:Prop} (h:p:=by(first|(have h9:=hph i1 hlt1;omega));first|done|fail):p:=h
set_option maxHeartbeats 2000000 in
set_option maxRecDepth 20000 in
theorem den (a0:(List Phase)) (hp0:PhOk a0):Den Tryz.prog 143 [encL 2 ym a0] (ownL 5 1 eIu8 (zr a0)):=by
 generalize hR:zr a0=r;unfold zr at hR;refine di Tryz.func143 Tryz.ntmps143 Tryz.results143 ?_;intro c hL hc hk;obtain⟨hL0,_⟩:=hL;have hw0:a0.length<9223372036854775808:=Nat.lt_succ_of_le (yd hL0).1;have hw1:∀ v∈a0,bwPhase v:=fun v hv=>y8 v ((yd hL0).2 v hv)
 clear hL0;simp only[pars,Nat.zero_add];have hph:=fun(i:Nat) (hi:i<a0.length)=>PhOk.at hp0 hi
 have hpl:=hp0.2.1;iterate 3 refine rS ?_
 refine AWP.block ?_;generalize hz1:yf (ycs a0) (a0.length-0) 0 ([]:List Int)=z1 at hR;refine AWP.range (ycs a0) (fun i1 s1=>⟨[(0,encL 2 ym a0),(3,.ref 0 1 0 s1.length),(4,.int .i64 (i1:Int))],[.arr 5 1 s1.length (fun j=>eIu8 (s1.getD j default))]⟩) (fun i1 s1=>s1.length<=1000 * i1) (a0.length) 0 ([]:List Int) [0] hz1 ot wt sm ?_;clear hz1;intro i1 s1 hi1 hW1 hz1;refine rS ?_;refine AWP.cond rfl (fun hb => ?_) (fun hb => ?_)
 ·have hlt1:i1<a0.length:=ot
  rw[yg hlt1]at hz1;simp only[ycs]at hz1;iterate 2 refine rS ?_
  refine AWP.cond rfl (fun hb => ?_) (fun hb => ?_)
  ·simp only[hb,cond_true]at hz1
   iterate 2 refine rS ?_
   refine AWP.block ?_;generalize hz2:yf (ywr a0 i1 s1) (((a0.getD i1 default).Length).toNat-0) 0 s1=z2 at hz1;refine AWP.range (ywr a0 i1 s1) (fun i2 s2=>⟨[(0,encL 2 ym a0),(3,.ref 0 1 0 s2.length),(4,.int .i64 (i1:Int)),(5,.int .u8 ((((a0.getD i1 default).Color).getD 0 0).toNat:Int)),(6,.int .i64 (i2:Int))],[.arr 5 1 s2.length (fun j=>eIu8 (s2.getD j default))]⟩) (fun i2 s2=>s2.length<=s1.length+1 * i2/\s2.length<=1000 * i1+i2) (((a0.getD i1 default).Length).toNat) 0 s1 [0] hz2 ot (by(have h9:=hW1;exact⟨by omega,by omega⟩)) sm ?_;clear hz2;intro i2 s2 hi2 hW2 hz2;refine rS ?_;refine AWP.cond rfl (fun hb => ?_) (fun hb => ?_)
   ·have hlt2:i2<((a0.getD i1 default).Length).toNat:=ot
    rw[yg hlt2]at hz2;simp only[ywr]at hz2;iterate 2 refine rS ?_
    exact⟨_,[2],hlt2,wt,hz2,sm⟩
   ·obtain rfl:i2=((a0.getD i1 default).Length).toNat:=ot
    rw[yh (Nat.le_refl _)]at hz2;subst hz2;dsimp only at hz1;refine AWP.exit ?_;refine yc ?_;refine rS ?_;exact⟨_,[0],hlt1,by(have h8:=hph i1 hlt1;first|(have h9:=hW2.2;omega)|(have h9:=hW3.2;omega)),hz1,sm⟩
  ·simp only[hb,cond_false]at hz1
   refine rS ?_;refine AWP.block ?_;generalize hz3:yf (yfr a0 i1 s1) (((a0.getD i1 default).Length).toNat-0) 0 s1=z3 at hz1;refine AWP.range (yfr a0 i1 s1) (fun i3 s3=>⟨[(0,encL 2 ym a0),(3,.ref 0 1 0 s3.length),(4,.int .i64 (i1:Int)),(5,.int .u8 0),(6,.int .i64 (i3:Int))],[.arr 5 1 s3.length (fun j=>eIu8 (s3.getD j default))]⟩) (fun i3 s3=>s3.length<=s1.length+1 * i3/\s3.length<=1000 * i1+i3) (((a0.getD i1 default).Length).toNat) 0 s1 [0] hz3 ot (by(have h9:=hW1;exact⟨by omega,by omega⟩)) sm ?_;clear hz3;intro i3 s3 hi3 hW3 hz3;refine rS ?_;refine AWP.cond rfl (fun hb => ?_) (fun hb => ?_)
   ·have hlt3:i3<((a0.getD i1 default).Length).toNat:=ot
    rw[yg hlt3]at hz3;simp only[yfr]at hz3;iterate 2 refine rS ?_
    exact⟨_,[2],hlt3,wt,hz3,sm⟩
   ·obtain rfl:i3=((a0.getD i1 default).Length).toNat:=ot
    rw[yh (Nat.le_refl _)]at hz3;subst hz3;dsimp only at hz1;refine AWP.exit ?_;refine yc ?_;refine rS ?_;exact⟨_,[0],hlt1,by(have h8:=hph i1 hlt1;first|(have h9:=hW2.2;omega)|(have h9:=hW3.2;omega)),hz1,sm⟩
 ·obtain rfl:i1=a0.length:=ot
  rw[yh (Nat.le_refl _)]at hz1;subst hz1;dsimp only at hR;refine AWP.exit ?_;refine yc ?_;refine rS ?_;refine AWP.ret ?_;subst hR;exact es
end N143
def D_zr : DF
 | [x0]=>some (ownL 5 1 eIu8 (zr (rdL yu x0)),false,[wL 2 ym yu x0,PhOk (rdL yu x0)])
 | _=>none
theorem y7x:OkD Tryz.prog 143 D_zr:=by unfold D_zr;exact dk N143.den
def y0h (a0:(List Int)) (i1:Nat) (s1:Unit) (s2:Bool×Int):Except (Sum (Int) (Bool×Int)) (Bool×Int):=
 (bif (decide ((IntKind.wrap .i64 (s2.2+(i1:Int)))<(a0.length:Int)) && s2.1)then .ok (((a0.getD ((s2.2).toNat) default) == (a0.getD ((IntKind.wrap .i64 (s2.2+(i1:Int))).toNat) default)),IntKind.wrap .i64 (s2.2+1))else .error (.inr (s2.1,s2.2)))
def ycf (a0:(List Int)) (i1:Nat) (s1:Unit):Except (Int) (Unit):=
 (bif (((a0.length:Int).tmod (i1:Int)) != 0)then .ok ()else(match ync (y0h a0 i1 s1) (((a0.length-(0:Int)).toNat)+1) (true,0)with|.error (.inl e)=>.error e|.error (.inr s2)=>(bif s2.1 then .error (i1:Int)else .ok ())|.ok _=>.error default))
def zab (a0:(List Int)):Int:=
 (match yf (ycf a0) (a0.length-1) 1 ()with|.error e=>e|.ok s1=>(a0.length:Int))
namespace N144
theorem DD:DOk Tryz.prog (Go.Ab.DD []):=ye _
theorem o1 {p:Prop} (h:p:=by(first|(have hcx:(decide ((IntKind.wrap .i64 (s2.2+(i1:Int)))<(a0.length:Int)) && s2.1)=true:=(by assumption);simp only[Bool.and_eq_true,decide_eq_true_eq]at hcx;have hw9:IntKind.wrap .i64 (s2.2+(i1:Int))=s2.2+(i1:Int):=(by rw[IntKind.wrap_i64];omega);rw[hw9]at hcx;have hw8:IntKind.wrap .i64 (s2.2+1)=s2.2+1:=(by rw[IntKind.wrap_i64];omega);(try rw[hw9]);first|omega|(refine⟨?_,?_⟩<;>omega)));first|done|fail):p:=h
set_option maxHeartbeats 2000000 in
set_option maxRecDepth 20000 in
theorem den (a0:(List Int)) (hp0:1<=a0.length) (hp1:a0.length<=1048576):Den Tryz.prog 144 [encL 1 eIu8 a0] (.int .i64 (zab a0)):=by
 generalize hR:zab a0=r;unfold zab at hR;refine di Tryz.func144 Tryz.ntmps144 Tryz.results144 ?_;intro c hL hc hk;obtain⟨hL0,_⟩:=hL;have hw0:a0.length<9223372036854775808:=Nat.lt_succ_of_le (yd hL0).1;clear hL0;simp only[pars,Nat.zero_add];iterate 2 refine rS ?_
 refine AWP.block ?_;generalize hz1:yf (ycf a0) (a0.length-1) 1 ()=z1 at hR;refine AWP.range (ycf a0) (fun i1 s1=>⟨[(0,encL 1 eIu8 a0),(3,.int .i64 (i1:Int))],[]⟩) (fun i1 s1=>1<=i1) (a0.length) 1 () [] hz1 ot wt sm ?_;clear hz1;intro i1 s1 hi1 hW1 hz1;refine rS ?_;refine AWP.cond rfl (fun hb => ?_) (fun hb => ?_)
 ·have hlt1:i1<a0.length:=ot
  rw[yg hlt1]at hz1;simp only[ycf]at hz1;refine rS ?_;refine AWP.cond rfl (fun hb => ?_) (fun hb => ?_)
  ·simp only[hb,cond_true]at hz1
   refine AWP.exit ?_;refine yc ?_;refine rS ?_;exact⟨_,[],hlt1,wt,hz1,sm⟩
  ·simp only[hb,cond_false]at hz1
   iterate 2 refine rS ?_
   refine AWP.block ?_;generalize hz2:ync (y0h a0 i1 s1) (((a0.length-(0:Int)).toNat)+1) (true,0)=z2 at hz1;refine AWP.whileW (y0h a0 i1 s1) (fun s2=>⟨[(0,encL 1 eIu8 a0),(3,.int .i64 (i1:Int)),(4,.bool s2.1),(5,.int .i64 s2.2)],[]⟩) (fun s2=>0<=s2.2/\s2.2<=a0.length) (fun s2=>(a0.length-s2.2).toNat) (((a0.length-(0:Int)).toNat)+1) (true,0) [] hz2 m0 (by(refine⟨by(try dsimp only);omega,by(try dsimp only);omega⟩)) sm ?_;clear hz2;intro s2 k2 hW2 hm2 hz2;simp only[y0h]at hz2;refine rS ?_;refine AWP.cond rfl (fun hb => ?_) (fun hb => ?_)
   ·simp only[hb,cond_true]at hz2
    refine rD 10 ?_;refine rS ?_;exact⟨_,[],by(have hcx:(decide ((IntKind.wrap .i64 (s2.2+(i1:Int)))<(a0.length:Int)) && s2.1)=true:=(by assumption);simp only[Bool.and_eq_true,decide_eq_true_eq]at hcx;have hw9:IntKind.wrap .i64 (s2.2+(i1:Int))=s2.2+(i1:Int):=(by rw[IntKind.wrap_i64];omega);rw[hw9]at hcx;have hw8:IntKind.wrap .i64 (s2.2+1)=s2.2+1:=(by rw[IntKind.wrap_i64];omega);(try dsimp only);rw[hw8];omega),by(have hcx:(decide ((IntKind.wrap .i64 (s2.2+(i1:Int)))<(a0.length:Int)) && s2.1)=true:=(by assumption);simp only[Bool.and_eq_true,decide_eq_true_eq]at hcx;have hw9:IntKind.wrap .i64 (s2.2+(i1:Int))=s2.2+(i1:Int):=(by rw[IntKind.wrap_i64];omega);rw[hw9]at hcx;have hw8:IntKind.wrap .i64 (s2.2+1)=s2.2+1:=(by rw[IntKind.wrap_i64];omega);refine⟨?_,?_⟩<;>(try dsimp only)<;>(rw[hw8];omega)),hz2,sm⟩
   ·simp only[hb,cond_false]at hz2
    refine AWP.exit ?_;refine yc ?_;subst hz2;dsimp only at hz1;refine rS ?_;refine AWP.cond rfl (fun hb => ?_) (fun hb => ?_)
    ·simp only[hb,cond_true]at hz1
     refine rS ?_;refine AWP.ret ?_;subst hz1;dsimp only at hR;subst hR;exact es
    ·simp only[hb,cond_false]at hz1
     refine rS ?_;exact⟨_,[],hlt1,wt,hz1,sm⟩
 ·obtain rfl:i1=a0.length:=ot
  rw[yh (Nat.le_refl _)]at hz1;subst hz1;dsimp only at hR;refine AWP.exit ?_;refine yc ?_;refine rS ?_;refine AWP.ret ?_;subst hR;exact es
end N144
def D_zab : DF
 | [x0]=>some (.int .i64 (zab (rdL dIu8 x0)),false,[wL 1 eIu8 dIu8 x0,1<=(rdL dIu8 x0).length,(rdL dIu8 x0).length<=1048576])
 | _=>none
theorem yow:OkD Tryz.prog 144 D_zab:=by unfold D_zab;exact dk N144.den
def y5j (a0:(List Int)) (i1:Nat) (s1:Int) (i2:Nat) (s2:Int):Except (Sum (Int) (Int)) (Int):=
 (bif ((a0.getD (((IntKind.wrap .i64 ((i1:Int)+(i2:Int))).tmod (a0.length:Int)).toNat) default) != (a0.getD (((IntKind.wrap .i64 (s2+(i2:Int))).tmod (a0.length:Int)).toNat) default))then(bif decide ((a0.getD (((IntKind.wrap .i64 ((i1:Int)+(i2:Int))).tmod (a0.length:Int)).toNat) default)<(a0.getD (((IntKind.wrap .i64 (s2+(i2:Int))).tmod (a0.length:Int)).toNat) default))then .error (.inr (i1:Int))else .error (.inr s2))else .ok s2)
def ywq (a0:(List Int)) (i1:Nat) (s1:Int):Except (Int) (Int):=
 (match yf (y5j a0 i1 s1) (a0.length-0) 0 s1 with|.error (.inl e)=>.error e|.error (.inr s2)=>.ok s2|.ok s2=>.ok s2)
def zx (a0:(List Int)):Int:=
 (match yf (ywq a0) (a0.length-1) 1 0 with|.error e=>e|.ok s1=>s1)
namespace N131
theorem DD:DOk Tryz.prog (Go.Ab.DD []):=ye _
theorem o1 {p:Prop} (h:p:=by(first|(have h9:=yqi (a:=IntKind.wrap .i64 ((i1:Int)+(i2:Int))) (n:=(a0.length:Int)) (by first|omega|(rw[IntKind.wrap_i64];omega)|(rw[IntKind.wrap_i64,IntKind.wrap_i64];omega)) (by omega);first|exact h9.1|exact h9.2.1|exact⟨h9.1,h9.2.1⟩|omega)|(have h9:=yqi (a:=IntKind.wrap .i64 (s2+(i2:Int))) (n:=(a0.length:Int)) (by first|omega|(rw[IntKind.wrap_i64];omega)|(rw[IntKind.wrap_i64,IntKind.wrap_i64];omega)) (by omega);first|exact h9.1|exact h9.2.1|exact⟨h9.1,h9.2.1⟩|omega));first|done|fail):p:=h
set_option maxHeartbeats 2000000 in
set_option maxRecDepth 20000 in
theorem den (a0:(List Int)) (hp0:1<=a0.length) (hp1:a0.length<=1048576):Den Tryz.prog 131 [encL 1 eIu8 a0] (.int .i64 (zx a0)):=by
 generalize hR:zx a0=r;unfold zx at hR;refine di Tryz.func131 Tryz.ntmps131 Tryz.results131 ?_;intro c hL hc hk;obtain⟨hL0,_⟩:=hL;have hw0:a0.length<9223372036854775808:=Nat.lt_succ_of_le (yd hL0).1;clear hL0;simp only[pars,Nat.zero_add];iterate 3 refine rS ?_
 refine AWP.block ?_;generalize hz1:yf (ywq a0) (a0.length-1) 1 0=z1 at hR;refine AWP.range (ywq a0) (fun i1 s1=>⟨[(0,encL 1 eIu8 a0),(3,.int .i64 s1),(4,.int .i64 (i1:Int))],[]⟩) (fun i1 s1=>1<=i1/\0<=s1/\s1<(a0.length:Int)) (a0.length) 1 0 [] hz1 ot wt sm ?_;clear hz1;intro i1 s1 hi1 hW1 hz1;refine rS ?_;refine AWP.cond rfl (fun hb => ?_) (fun hb => ?_)
 ·have hlt1:i1<a0.length:=ot
  rw[yg hlt1]at hz1;simp only[ywq]at hz1;refine rS ?_;refine AWP.block ?_;generalize hz2:yf (y5j a0 i1 s1) (a0.length-0) 0 s1=z2 at hz1;refine AWP.range (y5j a0 i1 s1) (fun i2 s2=>⟨[(0,encL 1 eIu8 a0),(3,.int .i64 s2),(4,.int .i64 (i1:Int)),(5,.int .i64 (i2:Int))],[]⟩) (fun i2 s2=>0<=s2/\s2<(a0.length:Int)) (a0.length) 0 s1 [] hz2 ot wt sm ?_;clear hz2;intro i2 s2 hi2 hW2 hz2;refine rS ?_;refine AWP.cond rfl (fun hb => ?_) (fun hb => ?_)
  ·have hlt2:i2<a0.length:=ot
   rw[yg hlt2]at hz2;simp only[y5j]at hz2;iterate 3 refine rS ?_
   refine AWP.cond rfl (fun hb => ?_) (fun hb => ?_)
   ·simp only[hb,cond_true]at hz2
    refine rS ?_;refine AWP.cond rfl (fun hb => ?_) (fun hb => ?_)
    ·simp only[hb,cond_true]at hz2
     refine rS ?_;refine AWP.exit ?_;refine ymd rfl ?_;refine yc ?_;subst hz2;dsimp only at hz1;refine rS ?_;exact⟨_,[],hlt1,wt,hz1,sm⟩
    ·simp only[hb,cond_false]at hz2
     refine AWP.skip ?_;refine AWP.exit ?_;refine ymd rfl ?_;refine yc ?_;subst hz2;dsimp only at hz1;refine rS ?_;exact⟨_,[],hlt1,wt,hz1,sm⟩
   ·simp only[hb,cond_false]at hz2
    refine rS ?_;exact⟨_,[],hlt2,wt,hz2,sm⟩
  ·obtain rfl:i2=a0.length:=ot
   rw[yh (Nat.le_refl _)]at hz2;subst hz2;dsimp only at hz1;refine AWP.exit ?_;refine yc ?_;refine rS ?_;exact⟨_,[],hlt1,wt,hz1,sm⟩
 ·obtain rfl:i1=a0.length:=ot
  rw[yh (Nat.le_refl _)]at hz1;subst hz1;dsimp only at hR;refine AWP.exit ?_;refine yc ?_;refine rS ?_;refine AWP.ret ?_;subst hR;exact es
end N131
def D_zx : DF
 | [x0]=>some (.int .i64 (zx (rdL dIu8 x0)),false,[wL 1 eIu8 dIu8 x0,1<=(rdL dIu8 x0).length,(rdL dIu8 x0).length<=1048576])
 | _=>none
theorem yly:OkD Tryz.prog 131 D_zx:=by unfold D_zx;exact dk N131.den
def zvd (a0:Int):(List UInt8):=
 (bif (a0 == 0)then[]else(([a0]:List Int).map fun z=>UInt8.ofNat z.toNat))
namespace N145
theorem DD:DOk Tryz.prog (Go.Ab.DD []):=ye _
theorem den (a0:Int)  : Den Tryz.prog 145 [.int .u8 a0] (.str (zvd a0)):=by
 generalize hR:zvd a0=r;unfold zvd at hR;refine di Tryz.func145 Tryz.ntmps145 Tryz.results145 ?_;intro c hL hc hk;clear hL;simp only[pars,Nat.zero_add];iterate 2 refine rS ?_
 refine AWP.cond rfl (fun hb => ?_) (fun hb => ?_)
 ·replace hR:=ct hR
  refine rS ?_;refine AWP.ret ?_;subst hR;exact es
 ·replace hR:=cf hR
  refine rS ?_;refine AWP.ret ?_;subst hR;exact es
end N145
def D_zvd : DF
 | [x0]=>some (.str (zvd (rdI x0)),false,[wI .u8 x0])
 | _=>none
theorem ynw:OkD Tryz.prog 145 D_zvd:=by unfold D_zvd;exact dk N145.den
def y3f (a0:(List Int)) (a1:Int) (i1:Nat) (s1:List Phase):Except ((List Phase)) (List Phase):=
 (bif (decide (0<(s1.length:Int)) && (((s1.getD ((IntKind.wrap .i64 ((s1.length:Int)-1)).toNat) default).Color) == (zvd (a0.getD (((IntKind.wrap .i64 (a1+(i1:Int))).tmod (a0.length:Int)).toNat) default))))then .ok (s1.set ((IntKind.wrap .i64 ((s1.length:Int)-1)).toNat) ({ Color:=(s1.getD ((IntKind.wrap .i64 ((s1.length:Int)-1)).toNat) default).Color,Length:=IntKind.wrap .i64 (((s1.getD ((IntKind.wrap .i64 ((s1.length:Int)-1)).toNat) default).Length)+1):Phase }))else .ok (s1++[{ Color:=(zvd (a0.getD (((IntKind.wrap .i64 (a1+(i1:Int))).tmod (a0.length:Int)).toNat) default)),Length:=1:Phase }]))
def zzb (a0:(List Int)) (a1:Int):(List Phase):=
 (match yf (y3f a0 a1) (a0.length-0) 0 ([]:List Phase)with|.error e=>e|.ok s1=>s1)
namespace N130
theorem DD:DOk Tryz.prog (Go.Ab.DD [(145,dP D_zvd)]):=ya ynw.e <| ye _
theorem dn:type_of% (@D_zvd.eq_1):=by and_intros<;>intros<;>rfl
theorem o1 {p:Prop} (h:p:=by(first|(have h9:=yqi (a:=IntKind.wrap .i64 (a1+(i1:Int))) (n:=(a0.length:Int)) (by first|omega|(rw[IntKind.wrap_i64];omega)|(rw[IntKind.wrap_i64,IntKind.wrap_i64];omega)) (by omega);first|exact h9.1|exact h9.2.1|exact⟨h9.1,h9.2.1⟩|omega));first|done|fail):p:=h
theorem o2 {p:Prop} (h:p:=by(first|((repeat' with_reducible apply And.intro)<;>first|(simp only[List.length_set];(first|done|fail))|(rw[IntKind.wrap_i64];omega)|(simp only[List.length_set];omega)|(intro j hj;by_cases hji:j=(IntKind.wrap .i64 ((s1.length:Int)-1)).toNat;(focus(rw[<- hji,yyr _ _ _ hj];simp only[beq_self_eq_true,cond_true]));(rw[y0s _ _ _ _ hji];simp only[beq_eq_false_iff_ne.2 hji,cond_false]))|decide)|((repeat' with_reducible apply And.intro)<;>first|(simp only[List.length_append,List.length_singleton];(first|done|fail))|(rw[IntKind.wrap_i64];omega)|(intro j hj;by_cases hji:j<s1.length;(focus(simp only[y6g hji,yhn hji,cond_true];first|(first|done|fail)|with_reducible rfl));(have e0:j-s1.length=0:=by omega);(simp only[ysh hji hj,y0n hji,cond_false,e0,elt,borrowL,borrow];first|(first|done|fail)|with_reducible rfl))|decide));first|done|fail):p:=h
set_option maxHeartbeats 2000000 in
set_option maxRecDepth 20000 in
theorem den (a0:(List Int)) (a1:Int) (hp0:a0.length<=1048576) (hp1:0<=a1) (hp2:a1<=1048576):Den Tryz.prog 130 [encL 1 eIu8 a0,.int .i64 a1] (ownL 105 2 ym (zzb a0 a1)):=by
 generalize hR:zzb a0 a1=r;unfold zzb at hR;refine di Tryz.func130 Tryz.ntmps130 Tryz.results130 ?_;intro c hL hc hk;obtain⟨hL0,hL1,_⟩:=hL;have hw0:a0.length<9223372036854775808:=Nat.lt_succ_of_le (yd hL0).1;clear hL0 hL1;simp only[pars,Nat.zero_add];iterate 3 refine rS ?_
 refine AWP.block ?_;generalize hz1:yf (y3f a0 a1) (a0.length-0) 0 ([]:List Phase)=z1 at hR;refine AWP.range (y3f a0 a1) (fun i1 s1=>⟨[(0,encL 1 eIu8 a0),(1,.int .i64 a1),(5,.ref 0 2 0 s1.length),(6,.int .i64 (i1:Int))],[.arr 105 2 s1.length (fun j=>ym (s1.getD j default))]⟩) (fun i1 s1=>s1.length<=([]:List Phase).length+1 * i1/\s1.length<=i1) (a0.length) 0 ([]:List Phase) [0] hz1 ot wt sm ?_;clear hz1;intro i1 s1 hi1 hW1 hz1;refine rS ?_;refine AWP.cond rfl (fun hb => ?_) (fun hb => ?_)
 ·have hlt1:i1<a0.length:=ot
  rw[yg hlt1]at hz1;simp only[y3f]at hz1;iterate 2 refine rS ?_
  refine AWP.cond rfl (fun hb => ?_) (fun hb => ?_)
  ·simp only[hb,cond_true]at hz1
   iterate 2 refine rS ?_
   exact⟨_,[0],hlt1,wt,hz1,sm⟩
  ·simp only[hb,cond_false]at hz1
   iterate 2 refine rS ?_
   exact⟨_,[2],hlt1,wt,hz1,sm⟩
 ·obtain rfl:i1=a0.length:=ot
  rw[yh (Nat.le_refl _)]at hz1;subst hz1;dsimp only at hR;refine AWP.exit ?_;refine yc ?_;refine rS ?_;refine AWP.ret ?_;subst hR;exact es
end N130
def D_zzb : DF
 | [x0,x1]=>some (ownL 105 2 ym (zzb (rdL dIu8 x0) (rdI x1)),false,[wL 1 eIu8 dIu8 x0,wI .i64 x1,(rdL dIu8 x0).length<=1048576,0<=(rdI x1),(rdI x1)<=1048576])
 | _=>none
theorem yyv:OkD Tryz.prog 130 D_zzb:=by unfold D_zzb;exact dk N130.den
def zb (a0:Int) (a1:Int) (a2:Int):Bool:=
 (decide (a1<=a0) && decide (a0<=a2))
namespace N29
theorem DD:DOk Tryz.prog (Go.Ab.DD []):=ye _
theorem den (a0:Int) (a1:Int) (a2:Int)  : Den Tryz.prog 29 [.int .i64 a0,.int .i64 a1,.int .i64 a2] (.bool (zb a0 a1 a2)):=by
 generalize hR:zb a0 a1 a2=r;unfold zb at hR;refine di Tryz.func29 Tryz.ntmps29 Tryz.results29 ?_;intro c hL hc hk;clear hL;simp only[pars,Nat.zero_add];iterate 2 refine rS ?_
 refine AWP.ret ?_;subst hR;exact es
end N29
def D_zb : DF
 | [x0,x1,x2]=>some (.bool (zb (rdI x0) (rdI x1) (rdI x2)),false,[wI .i64 x0,wI .i64 x1,wI .i64 x2])
 | _=>none
theorem yfd:OkD Tryz.prog 29 D_zb:=by unfold D_zb;exact dk N29.den
def ysl (a0:(List Int)) (i1:Nat) (s1:Int):Except (Int) (Int):=
 .ok (IntKind.wrap .i64 (s1+(a0.getD i1 default)))
def zcd (a0:(List Int)):Int:=
 (bif ((a0.length:Int) == 0)then 1 else(match yf (ysl a0) (a0.length-0) 0 0 with|.error e=>e|.ok s1=>s1))
namespace N126
theorem DD:DOk Tryz.prog (Go.Ab.DD []):=ye _
theorem den (a0:(List Int))  : Den Tryz.prog 126 [encL 1 yq a0] (.int .i64 (zcd a0)):=by
 generalize hR:zcd a0=r;unfold zcd at hR;refine di Tryz.func126 Tryz.ntmps126 Tryz.results126 ?_;intro c hL hc hk;obtain⟨hL0,_⟩:=hL;have hw0:a0.length<9223372036854775808:=Nat.lt_succ_of_le (yd hL0).1;clear hL0;simp only[pars,Nat.zero_add];iterate 2 refine rS ?_
 refine AWP.cond rfl (fun hb => ?_) (fun hb => ?_)
 ·replace hR:=ct hR
  refine rS ?_;refine AWP.ret ?_;subst hR;exact es
 ·replace hR:=cf hR
  iterate 2 refine rS ?_
  refine AWP.block ?_;generalize hz1:yf (ysl a0) (a0.length-0) 0 0=z1 at hR;refine AWP.range (ysl a0) (fun i1 s1=>⟨[(0,encL 1 yq a0),(3,.int .i64 s1),(4,.int .i64 (i1:Int))],[]⟩) (fun i1 s1=>True) (a0.length) 0 0 [] hz1 ot wt sm ?_;clear hz1;intro i1 s1 hi1 hW1 hz1;refine rS ?_;refine AWP.cond rfl (fun hb => ?_) (fun hb => ?_)
  ·have hlt1:i1<a0.length:=ot
   rw[yg hlt1]at hz1;simp only[ysl]at hz1;iterate 2 refine rS ?_
   exact⟨_,[],hlt1,wt,hz1,sm⟩
  ·obtain rfl:i1=a0.length:=ot
   rw[yh (Nat.le_refl _)]at hz1;subst hz1;dsimp only at hR;refine AWP.exit ?_;refine yc ?_;refine rS ?_;refine AWP.ret ?_;subst hR;exact es
end N126
def D_zcd : DF
 | [x0]=>some (.int .i64 (zcd (rdL ynb x0)),false,[wL 1 yq ynb x0])
 | _=>none
theorem yht:OkD Tryz.prog 126 D_zcd:=by unfold D_zcd;exact dk N126.den
def yxk (a0:(List Int)) (i1:Nat) (s1:Unit):Except (Bool) (Unit):=
 (bif (!(zb (a0.getD i1 default) 1 9))then .error false else .ok ())
def zbc (a0:(List Int)):Bool:=
 (match yf (yxk a0) (a0.length-0) 0 ()with|.error e=>e|.ok s1=>((decide ((a0.length:Int)<=4) && (!(((a0.length:Int) == 1) && ((a0.getD 0 default) == 1)))) && decide ((zcd a0)<=12)))
namespace N99
theorem DD:DOk Tryz.prog (Go.Ab.DD [(126,dP D_zcd),(29,dP D_zb)]):=ya yht.e <| ya yfd.e <| ye _
theorem dn:type_of% (And.intro @D_zcd.eq_1 <| @D_zb.eq_1):=by and_intros<;>intros<;>rfl
theorem ol:type_of% (@zb.eq_1):=@zb.eq_1
theorem den (a0:(List Int))  : Den Tryz.prog 99 [encL 1 yq a0] (.bool (zbc a0)):=by
 generalize hR:zbc a0=r;unfold zbc at hR;refine di Tryz.func99 Tryz.ntmps99 Tryz.results99 ?_;intro c hL hc hk;obtain⟨hL0,_⟩:=hL;have hw0:a0.length<9223372036854775808:=Nat.lt_succ_of_le (yd hL0).1;clear hL0;simp only[pars,Nat.zero_add];iterate 2 refine rS ?_
 refine AWP.block ?_;generalize hz1:yf (yxk a0) (a0.length-0) 0 ()=z1 at hR;refine AWP.range (yxk a0) (fun i1 s1=>⟨[(0,encL 1 yq a0),(3,.int .i64 (i1:Int))],[]⟩) (fun i1 s1=>True) (a0.length) 0 () [] hz1 ot wt sm ?_;clear hz1;intro i1 s1 hi1 hW1 hz1;refine rS ?_;refine AWP.cond rfl (fun hb => ?_) (fun hb => ?_)
 ·have hlt1:i1<a0.length:=ot
  rw[yg hlt1]at hz1;simp only[yxk]at hz1;refine rS ?_;refine AWP.cond rfl (fun hb => ?_) (fun hb => ?_)
  ·simp only[hb,cond_true]at hz1
   refine rS ?_;refine AWP.ret ?_;subst hz1;dsimp only at hR;subst hR;exact es
  ·simp only[hb,cond_false]at hz1
   refine rS ?_;exact⟨_,[],hlt1,wt,hz1,sm⟩
 ·obtain rfl:i1=a0.length:=ot
  rw[yh (Nat.le_refl _)]at hz1;subst hz1;dsimp only at hR;refine AWP.exit ?_;refine yc ?_;refine rS ?_;refine AWP.ret ?_;subst hR;exact es
end N99
def D_zbc : DF
 | [x0]=>some (.bool (zbc (rdL ynb x0)),false,[wL 1 yq ynb x0])
 | _=>none
theorem yut:OkD Tryz.prog 99 D_zbc:=by unfold D_zbc;exact dk N99.den
def zwd (a0:Int):Bool:=
 (zb a0 1 8)
namespace N97
theorem DD:DOk Tryz.prog (Go.Ab.DD [(29,dP D_zb)]):=ya yfd.e <| ye _
theorem dn:type_of% (@D_zb.eq_1):=by and_intros<;>intros<;>rfl
theorem ol:type_of% (@zb.eq_1):=@zb.eq_1
theorem den (a0:Int)  : Den Tryz.prog 97 [.int .i64 a0] (.bool (zwd a0)):=by
 generalize hR:zwd a0=r;unfold zwd at hR;refine di Tryz.func97 Tryz.ntmps97 Tryz.results97 ?_;intro c hL hc hk;clear hL;simp only[pars,Nat.zero_add];iterate 2 refine rS ?_
 refine AWP.ret ?_;subst hR;exact es
end N97
def D_zwd : DF
 | [x0]=>some (.bool (zwd (rdI x0)),false,[wI .i64 x0])
 | _=>none
theorem yiw:OkD Tryz.prog 97 D_zwd:=by unfold D_zwd;exact dk N97.den
def zwc (a0:Int):Int:=
 (bif (a0 == 87)then 1 else(bif (a0 == 82)then 2 else(bif (a0 == 71)then 3 else(bif (a0 == 89)then 4 else 0))))
namespace N125
theorem DD:DOk Tryz.prog (Go.Ab.DD []):=ye _
theorem den (a0:Int)  : Den Tryz.prog 125 [.int .u8 a0] (.int .i64 (zwc a0)):=by
 generalize hR:zwc a0=r;unfold zwc at hR;refine di Tryz.func125 Tryz.ntmps125 Tryz.results125 ?_;intro c hL hc hk;clear hL;simp only[pars,Nat.zero_add];iterate 3 refine rS ?_
 refine AWP.cond rfl (fun hb => ?_) (fun hb => ?_)
 ·replace hR:=ct hR
  refine rS ?_;refine AWP.ret ?_;subst hR;exact es
 ·replace hR:=cf hR
  refine rS ?_;refine AWP.cond rfl (fun hb => ?_) (fun hb => ?_)
  ·replace hR:=ct hR
   refine rS ?_;refine AWP.ret ?_;subst hR;exact es
  ·replace hR:=cf hR
   refine rS ?_;refine AWP.cond rfl (fun hb => ?_) (fun hb => ?_)
   ·replace hR:=ct hR
    refine rS ?_;refine AWP.ret ?_;subst hR;exact es
   ·replace hR:=cf hR
    refine rS ?_;refine AWP.cond rfl (fun hb => ?_) (fun hb => ?_)
    ·replace hR:=ct hR
     refine rS ?_;refine AWP.ret ?_;subst hR;exact es
    ·replace hR:=cf hR
     refine rS ?_;refine AWP.ret ?_;subst hR;exact es
end N125
def D_zwc : DF
 | [x0]=>some (.int .i64 (zwc (rdI x0)),false,[wI .u8 x0])
 | _=>none
theorem y3u:OkD Tryz.prog 125 D_zwc:=by unfold D_zwc;exact dk N125.den
def yoh (a0:(List UInt8)) (i1:Nat) (s1:Unit):Except (Bool) (Unit):=
 (bif (((zwc ((a0.getD i1 0).toNat:Int)) == 0) || (decide (0<(i1:Int)) && decide ((zwc ((a0.getD i1 0).toNat:Int))<=(zwc ((a0.getD ((IntKind.wrap .i64 ((i1:Int)-1)).toNat) 0).toNat:Int)))))then .error false else .ok ())
def zub (a0:(List UInt8)):Bool:=
 (match yf (yoh a0) (a0.length-0) 0 ()with|.error e=>e|.ok s1=>(decide (1<=(a0.length:Int)) && decide ((a0.length:Int)<=3)))
namespace N98
theorem DD:DOk Tryz.prog (Go.Ab.DD [(125,dP D_zwc)]):=ya y3u.e <| ye _
theorem dn:type_of% (@D_zwc.eq_1):=by and_intros<;>intros<;>rfl
theorem den (a0:(List UInt8))  : Den Tryz.prog 98 [.str a0] (.bool (zub a0)):=by
 generalize hR:zub a0=r;unfold zub at hR;refine di Tryz.func98 Tryz.ntmps98 Tryz.results98 ?_;intro c hL hc hk;obtain⟨hL0,_⟩:=hL;have hw0:a0.length<9223372036854775808:=Nat.lt_succ_of_le hL0;clear hL0;simp only[pars,Nat.zero_add];iterate 2 refine rS ?_
 refine AWP.block ?_;generalize hz1:yf (yoh a0) (a0.length-0) 0 ()=z1 at hR;refine AWP.range (yoh a0) (fun i1 s1=>⟨[(0,.str a0),(3,.int .i64 (i1:Int))],[]⟩) (fun i1 s1=>True) (a0.length) 0 () [] hz1 ot wt sm ?_;clear hz1;intro i1 s1 hi1 hW1 hz1;refine rS ?_;refine AWP.cond rfl (fun hb => ?_) (fun hb => ?_)
 ·have hlt1:i1<a0.length:=ot
  rw[yg hlt1]at hz1;simp only[yoh]at hz1;refine rD 21 ?_;refine AWP.cond rfl (fun hb => ?_) (fun hb => ?_)
  ·simp only[hb,cond_true]at hz1
   refine rS ?_;refine AWP.ret ?_;subst hz1;dsimp only at hR;subst hR;exact es
  ·simp only[hb,cond_false]at hz1
   refine rS ?_;exact⟨_,[],hlt1,wt,hz1,sm⟩
 ·obtain rfl:i1=a0.length:=ot
  rw[yh (Nat.le_refl _)]at hz1;subst hz1;dsimp only at hR;refine AWP.exit ?_;refine yc ?_;refine rS ?_;refine AWP.ret ?_;subst hR;exact es
end N98
def D_zub : DF
 | [x0]=>some (.bool (zub (rdS x0)),false,[wS x0])
 | _=>none
theorem yfw:OkD Tryz.prog 98 D_zub:=by unfold D_zub;exact dk N98.den
def zqc (a0:Character):Bool:=
 (bif ((!(zwd a0.Kind)) || (!(zub a0.Colors)))then false else(bif (a0.Kind == 1)then(((a0.Group.length:Int) == 0) && (a0.Letter == []))else(bif (a0.Kind == 3)then(((a0.Group.length:Int) == 0) && (a0.Letter == []))else(bif (a0.Kind == 6)then(bif (a0.Letter == [76])then(((a0.Group.length:Int) == 1) && ((a0.Group.getD 0 default) == 6))else(((a0.Letter == []) && decide ((a0.Group.length:Int)<=1)) && (zbc a0.Group)))else(bif (a0.Kind == 7)then(bif (a0.Letter == [76])then(((a0.Group.length:Int) == 1) && ((a0.Group.getD 0 default) == 6))else(((a0.Letter == []) && decide ((a0.Group.length:Int)<=1)) && (zbc a0.Group)))else(bif (a0.Kind == 8)then(((((a0.Group.length:Int) == 0) && ((a0.Letter.length:Int) == 1)) && decide (65<=((a0.Letter.getD 0 0).toNat:Int))) && decide (((a0.Letter.getD 0 0).toNat:Int)<=90))else((a0.Letter == []) && (zbc a0.Group))))))))
namespace N60
theorem DD:DOk Tryz.prog (Go.Ab.DD [(97,dP D_zwd),(98,dP D_zub),(99,dP D_zbc)]):=ya yiw.e <| ya yfw.e <| ya yut.e <| ye _
theorem dn:type_of% (And.intro @D_zwd.eq_1 <| And.intro @D_zub.eq_1 <| @D_zbc.eq_1):=by and_intros<;>intros<;>rfl
theorem den (a0:Character)  : Den Tryz.prog 60 [.ep (eCharacter a0)] (.bool (zqc a0)):=by
 generalize hR:zqc a0=r;unfold zqc at hR;refine di Tryz.func60 Tryz.ntmps60 Tryz.results60 ?_;intro c hL hc hk;obtain⟨hL0,_⟩:=hL;have hw0:bwCharacter a0:=yj a0 hL0;clear hL0;simp only[pars,Nat.zero_add];iterate 2 refine rS ?_
 refine AWP.cond rfl (fun hb => ?_) (fun hb => ?_)
 ·replace hR:=ct hR
  refine rS ?_;refine AWP.ret ?_;subst hR;exact es
 ·replace hR:=cf hR
  iterate 2 refine rS ?_
  refine AWP.cond rfl (fun hb => ?_) (fun hb => ?_)
  ·replace hR:=ct hR
   refine AWP.skip ?_;refine AWP.cond rfl (fun hb => ?_) (fun hb => ?_)
   ·refine rS ?_
    refine AWP.ret ?_;subst hR;exact es
   ·exfalso;simp_all
  ·replace hR:=cf hR
   refine rS ?_;refine AWP.cond rfl (fun hb => ?_) (fun hb => ?_)
   ·replace hR:=ct hR
    refine rS ?_;refine AWP.ret ?_;subst hR;exact es
   ·replace hR:=cf hR
    refine rS ?_;refine AWP.cond rfl (fun hb => ?_) (fun hb => ?_)
    ·replace hR:=ct hR
     refine AWP.skip ?_;refine AWP.cond rfl (fun hb => ?_) (fun hb => ?_)
     ·refine rS ?_
      refine AWP.cond rfl (fun hb => ?_) (fun hb => ?_)
      ·replace hR:=ct hR
       refine rS ?_;refine AWP.ret ?_;subst hR;exact es
      ·replace hR:=cf hR
       refine rS ?_;refine AWP.ret ?_;subst hR;exact es
     ·exfalso;simp_all
    ·replace hR:=cf hR
     refine rS ?_;refine AWP.cond rfl (fun hb => ?_) (fun hb => ?_)
     ·replace hR:=ct hR
      refine rS ?_;refine AWP.cond rfl (fun hb => ?_) (fun hb => ?_)
      ·replace hR:=ct hR
       refine rS ?_;refine AWP.ret ?_;subst hR;exact es
      ·replace hR:=cf hR
       refine rS ?_;refine AWP.ret ?_;subst hR;exact es
     ·replace hR:=cf hR
      refine rS ?_;refine AWP.cond rfl (fun hb => ?_) (fun hb => ?_)
      ·replace hR:=ct hR
       refine rS ?_;refine AWP.ret ?_;subst hR;exact es
      ·replace hR:=cf hR
       refine rS ?_;refine AWP.ret ?_;subst hR;exact es
end N60
def D_zqc : DF
 | [x0]=>some (.bool (zqc (rdP yb x0)),false,[wP eCharacter yb x0])
 | _=>none
theorem y4t:OkD Tryz.prog 60 D_zqc:=by unfold D_zqc;exact dk N60.den
def yvk (a0:Int) (i1:Nat) (s1:List Int):Except ((List Int)) (List Int):=
 (bif ((((([[46,45],[45,46,46,46],[45,46,45,46],[45,46,46],[46],[46,46,45,46],[45,45,46],[46,46,46,46],[46,46],[46,45,45,45],[45,46,45],[46,45,46,46],[45,45],[45,46],[45,45,45],[46,45,45,46],[45,45,46,45],[46,45,46],[46,46,46],[45],[46,46,45],[46,46,46,45],[46,45,45],[45,46,46,45],[45,46,45,45],[45,45,46,46]]:List (List UInt8)).getD ((IntKind.wrap .u8 (a0-65)).toNat) default).getD i1 0).toNat:Int) == 46)then .ok (s1++([5]:List Int))else .ok (s1++([15]:List Int)))
def zo (a0:Int):(List Int):=
 (match yf (yvk a0) (((([[46,45],[45,46,46,46],[45,46,45,46],[45,46,46],[46],[46,46,45,46],[45,45,46],[46,46,46,46],[46,46],[46,45,45,45],[45,46,45],[46,45,46,46],[45,45],[45,46],[45,45,45],[46,45,45,46],[45,45,46,45],[46,45,46],[46,46,46],[45],[46,46,45],[46,46,46,45],[46,45,45],[45,46,46,45],[45,46,45,45],[45,45,46,46]]:List (List UInt8)).getD ((IntKind.wrap .u8 (a0-65)).toNat) default).length)-0) 0 ([]:List Int)with|.error e=>e|.ok s1=>s1)
namespace N127
theorem DD:DOk Tryz.prog (Go.Ab.DD []):=ye _
theorem lx {p:Prop} (h:p:=by(exact lxx);first|done|fail):p:=h
theorem den (a0:Int) (hp0:65<=a0) (hp1:a0<=90):Den Tryz.prog 127 [.int .u8 a0] (ownL 2 1 yq (zo a0)):=by
 generalize hR:zo a0=r;unfold zo at hR;refine di Tryz.func127 Tryz.ntmps127 Tryz.results127 ?_;intro c hL hc hk;clear hL;simp only[pars,Nat.zero_add];have hs9:=yxu (IntKind.wrap .u8 (a0-65)).toNat;have hw9:IntKind.wrap .u8 (a0-65)=a0-65:=ygh _ (by omega) (by omega);iterate 5 refine rS ?_
 refine AWP.block ?_;generalize hz1:yf (yvk a0) (((([[46,45],[45,46,46,46],[45,46,45,46],[45,46,46],[46],[46,46,45,46],[45,45,46],[46,46,46,46],[46,46],[46,45,45,45],[45,46,45],[46,45,46,46],[45,45],[45,46],[45,45,45],[46,45,45,46],[45,45,46,45],[46,45,46],[46,46,46],[45],[46,46,45],[46,46,46,45],[46,45,45],[45,46,46,45],[45,46,45,45],[45,45,46,46]]:List (List UInt8)).getD ((IntKind.wrap .u8 (a0-65)).toNat) default).length)-0) 0 ([]:List Int)=z1 at hR;refine AWP.range (yvk a0) (fun i1 s1=>⟨[(4,.str (([[46,45],[45,46,46,46],[45,46,45,46],[45,46,46],[46],[46,46,45,46],[45,45,46],[46,46,46,46],[46,46],[46,45,45,45],[45,46,45],[46,45,46,46],[45,45],[45,46],[45,45,45],[46,45,45,46],[45,45,46,45],[46,45,46],[46,46,46],[45],[46,46,45],[46,46,46,45],[46,45,45],[45,46,46,45],[45,46,45,45],[45,45,46,46]]:List (List UInt8)).getD ((IntKind.wrap .u8 (a0-65)).toNat) default)),(5,.ref 0 1 0 s1.length),(6,.int .i64 (i1:Int))],[.arr 2 1 s1.length (fun j=>yq (s1.getD j default))]⟩) (fun i1 s1=>s1.length<=([]:List Int).length+1 * i1/\s1.length<=i1) (((([[46,45],[45,46,46,46],[45,46,45,46],[45,46,46],[46],[46,46,45,46],[45,45,46],[46,46,46,46],[46,46],[46,45,45,45],[45,46,45],[46,45,46,46],[45,45],[45,46],[45,45,45],[46,45,45,46],[45,45,46,45],[46,45,46],[46,46,46],[45],[46,46,45],[46,46,46,45],[46,45,45],[45,46,46,45],[45,46,45,45],[45,45,46,46]]:List (List UInt8)).getD ((IntKind.wrap .u8 (a0-65)).toNat) default).length)) 0 ([]:List Int) [1] hz1 ot wt sm ?_;clear hz1;intro i1 s1 hi1 hW1 hz1;refine rS ?_;refine AWP.cond rfl (fun hb => ?_) (fun hb => ?_)
 ·have hlt1:i1<((([[46,45],[45,46,46,46],[45,46,45,46],[45,46,46],[46],[46,46,45,46],[45,45,46],[46,46,46,46],[46,46],[46,45,45,45],[45,46,45],[46,45,46,46],[45,45],[45,46],[45,45,45],[46,45,45,46],[45,45,46,45],[46,45,46],[46,46,46],[45],[46,46,45],[46,46,46,45],[46,45,45],[45,46,46,45],[45,46,45,45],[45,45,46,46]]:List (List UInt8)).getD ((IntKind.wrap .u8 (a0-65)).toNat) default).length):=ot
  rw[yg hlt1]at hz1;simp only[yvk]at hz1;refine rS ?_;refine AWP.cond rfl (fun hb => ?_) (fun hb => ?_)
  ·simp only[hb,cond_true]at hz1
   iterate 2 refine rS ?_
   exact⟨_,[2],hlt1,wt,hz1,sm⟩
  ·simp only[hb,cond_false]at hz1
   iterate 2 refine rS ?_
   exact⟨_,[2],hlt1,wt,hz1,sm⟩
 ·obtain rfl:i1=((([[46,45],[45,46,46,46],[45,46,45,46],[45,46,46],[46],[46,46,45,46],[45,45,46],[46,46,46,46],[46,46],[46,45,45,45],[45,46,45],[46,45,46,46],[45,45],[45,46],[45,45,45],[46,45,45,46],[45,45,46,45],[46,45,46],[46,46,46],[45],[46,46,45],[46,46,46,45],[46,45,45],[45,46,46,45],[45,46,45,45],[45,45,46,46]]:List (List UInt8)).getD ((IntKind.wrap .u8 (a0-65)).toNat) default).length):=ot
  rw[yh (Nat.le_refl _)]at hz1;subst hz1;dsimp only at hR;refine AWP.exit ?_;refine yc ?_;refine rS ?_;refine AWP.ret ?_;subst hR;exact es
end N127
def D_zo : DF
 | [x0]=>some (ownL 2 1 yq (zo (rdI x0)),false,[wI .u8 x0,65<=(rdI x0),(rdI x0)<=90])
 | _=>none
theorem y1y:OkD Tryz.prog 127 D_zo:=by unfold D_zo;exact dk N127.den
theorem yje (a:Int):zo a=(yac.getD (IntKind.wrap .u8 (a-65)).toNat default).map (fun c=>if c=46 then(5:Int)else 15):=by
 have h:=y1k (yvk a) (fun j=>[if((yac.getD (IntKind.wrap .u8 (a-65)).toNat default).getD j 0)=46 then(5:Int)else 15]) (yac.getD (IntKind.wrap .u8 (a-65)).toNat default).length 0 [] (fun j s _ _=>by
  show(bif ((((yac.getD (IntKind.wrap .u8 (a-65)).toNat default).getD j 0).toNat:Int) == 46)then(.ok (s++[5]):Except (List Int) (List Int))else .ok (s++[15]))=_;generalize (yac.getD (IntKind.wrap .u8 (a-65)).toNat default).getD j 0=c;by_cases hc:c=46
  ·subst hc;rfl
  ·have:((c.toNat:Int) == 46)=false:=by
    rw[beq_eq_false_iff_ne];intro h;exact hc (UInt8.toNat_inj.1 (by show c.toNat=46;omega))
   rw[this,if_neg hc];rfl)
 have e:zo a=(match yf (yvk a) (yac.getD (IntKind.wrap .u8 (a-65)).toNat default).length 0 ([]:List Int)with|.error e=>e|.ok s1=>s1):=rfl;rw[e,h];simp only[List.nil_append];exact ygs _ 0 (fun c=>if c=46 then(5:Int)else 15)
theorem yvh (a:Int):(zo a).length<=4:=by
 rw[yje,List.length_map];exact yci _
def zdb (a0:Character):Bool:=
 ((a0.Kind == 1) || (((a0.Kind == 6) || (a0.Kind == 7)) && ((a0.Group.length:Int) == 0)))
namespace N61
theorem DD:DOk Tryz.prog (Go.Ab.DD []):=ye _
theorem den (a0:Character)  : Den Tryz.prog 61 [.ep (eCharacter a0)] (.bool (zdb a0)):=by
 generalize hR:zdb a0=r;unfold zdb at hR;refine di Tryz.func61 Tryz.ntmps61 Tryz.results61 ?_;intro c hL hc hk;obtain⟨hL0,_⟩:=hL;have hw0:bwCharacter a0:=yj a0 hL0;clear hL0;simp only[pars,Nat.zero_add];iterate 2 refine rS ?_
 refine AWP.ret ?_;subst hR;exact es
end N61
def D_zdb : DF
 | [x0]=>some (.bool (zdb (rdP yb x0)),false,[wP eCharacter yb x0])
 | _=>none
theorem y6j:OkD Tryz.prog 61 D_zdb:=by unfold D_zdb;exact dk N61.den
def yqq (a0:(List Int)) (i1:Nat) (s1:Int):Except (Int) (Int):=
 .ok (IntKind.wrap .i64 (s1+(a0.getD i1 default)))
def zp (a0:(List Int)):Int:=
 (match yf (yqq a0) (a0.length-0) 0 0 with|.error e=>e|.ok s1=>s1)
namespace N100
theorem DD:DOk Tryz.prog (Go.Ab.DD []):=ye _
theorem den (a0:(List Int))  : Den Tryz.prog 100 [encL 1 yq a0] (.int .i64 (zp a0)):=by
 generalize hR:zp a0=r;unfold zp at hR;refine di Tryz.func100 Tryz.ntmps100 Tryz.results100 ?_;intro c hL hc hk;obtain⟨hL0,_⟩:=hL;have hw0:a0.length<9223372036854775808:=Nat.lt_succ_of_le (yd hL0).1;clear hL0;simp only[pars,Nat.zero_add];iterate 3 refine rS ?_
 refine AWP.block ?_;generalize hz1:yf (yqq a0) (a0.length-0) 0 0=z1 at hR;refine AWP.range (yqq a0) (fun i1 s1=>⟨[(0,encL 1 yq a0),(3,.int .i64 s1),(4,.int .i64 (i1:Int))],[]⟩) (fun i1 s1=>True) (a0.length) 0 0 [] hz1 ot wt sm ?_;clear hz1;intro i1 s1 hi1 hW1 hz1;refine rS ?_;refine AWP.cond rfl (fun hb => ?_) (fun hb => ?_)
 ·have hlt1:i1<a0.length:=ot
  rw[yg hlt1]at hz1;simp only[yqq]at hz1;iterate 2 refine rS ?_
  exact⟨_,[],hlt1,wt,hz1,sm⟩
 ·obtain rfl:i1=a0.length:=ot
  rw[yh (Nat.le_refl _)]at hz1;subst hz1;dsimp only at hR;refine AWP.exit ?_;refine yc ?_;refine rS ?_;refine AWP.ret ?_;subst hR;exact es
end N100
def D_zp : DF
 | [x0]=>some (.int .i64 (zp (rdL ynb x0)),false,[wL 1 yq ynb x0])
 | _=>none
theorem y7s:OkD Tryz.prog 100 D_zp:=by unfold D_zp;exact dk N100.den
def zk (a0:Int):Int:=
 (bif (a0 == 2)then 10 else(bif (a0 == 4)then 15 else(bif (a0 == 5)then 20 else(bif (a0 == 7)then 3 else 5))))
namespace N106
theorem DD:DOk Tryz.prog (Go.Ab.DD []):=ye _
theorem den (a0:Int)  : Den Tryz.prog 106 [.int .i64 a0] (.int .i64 (zk a0)):=by
 generalize hR:zk a0=r;unfold zk at hR;refine di Tryz.func106 Tryz.ntmps106 Tryz.results106 ?_;intro c hL hc hk;clear hL;simp only[pars,Nat.zero_add];iterate 3 refine rS ?_
 refine AWP.cond rfl (fun hb => ?_) (fun hb => ?_)
 ·replace hR:=ct hR
  refine rS ?_;refine AWP.ret ?_;subst hR;exact es
 ·replace hR:=cf hR
  refine rS ?_;refine AWP.cond rfl (fun hb => ?_) (fun hb => ?_)
  ·replace hR:=ct hR
   refine rS ?_;refine AWP.ret ?_;subst hR;exact es
  ·replace hR:=cf hR
   refine rS ?_;refine AWP.cond rfl (fun hb => ?_) (fun hb => ?_)
   ·replace hR:=ct hR
    refine rS ?_;refine AWP.ret ?_;subst hR;exact es
   ·replace hR:=cf hR
    refine rS ?_;refine AWP.cond rfl (fun hb => ?_) (fun hb => ?_)
    ·replace hR:=ct hR
     refine rS ?_;refine AWP.ret ?_;subst hR;exact es
    ·replace hR:=cf hR
     refine rS ?_;refine AWP.ret ?_;subst hR;exact es
end N106
def D_zk : DF
 | [x0]=>some (.int .i64 (zk (rdI x0)),false,[wI .i64 x0])
 | _=>none
theorem yin:OkD Tryz.prog 106 D_zk:=by unfold D_zk;exact dk N106.den
def zhb (a0:Int):Int:=
 (bif (a0 == 2)then 10 else(bif (a0 == 5)then 20 else(bif (a0 == 7)then 2 else 5)))
namespace N128
theorem DD:DOk Tryz.prog (Go.Ab.DD []):=ye _
theorem den (a0:Int)  : Den Tryz.prog 128 [.int .i64 a0] (.int .i64 (zhb a0)):=by
 generalize hR:zhb a0=r;unfold zhb at hR;refine di Tryz.func128 Tryz.ntmps128 Tryz.results128 ?_;intro c hL hc hk;clear hL;simp only[pars,Nat.zero_add];iterate 3 refine rS ?_
 refine AWP.cond rfl (fun hb => ?_) (fun hb => ?_)
 ·replace hR:=ct hR
  refine rS ?_;refine AWP.ret ?_;subst hR;exact es
 ·replace hR:=cf hR
  refine rS ?_;refine AWP.cond rfl (fun hb => ?_) (fun hb => ?_)
  ·replace hR:=ct hR
   refine rS ?_;refine AWP.ret ?_;subst hR;exact es
  ·replace hR:=cf hR
   refine rS ?_;refine AWP.cond rfl (fun hb => ?_) (fun hb => ?_)
   ·replace hR:=ct hR
    refine rS ?_;refine AWP.ret ?_;subst hR;exact es
   ·replace hR:=cf hR
    refine rS ?_;refine AWP.ret ?_;subst hR;exact es
end N128
def D_zhb : DF
 | [x0]=>some (.int .i64 (zhb (rdI x0)),false,[wI .i64 x0])
 | _=>none
theorem y1u:OkD Tryz.prog 128 D_zhb:=by unfold D_zhb;exact dk N128.den
def yig (a0:Character) (i1:Nat) (s1:List Int):Except ((List Int)) (List Int):=
 (bif decide (0<(i1:Int))then .ok ((s1++([5]:List Int))++([((zo ((a0.Letter.getD 0 0).toNat:Int)).getD i1 default)]:List Int))else .ok (s1++([((zo ((a0.Letter.getD 0 0).toNat:Int)).getD i1 default)]:List Int)))
def yzf (a0:Character) (i2:Nat) (s2:List Int) (i3:Nat) (s3:List Int):Except ((List Int)) (List Int):=
 (bif decide (0<(i3:Int))then .ok ((s3++([(zk a0.Kind)]:List Int))++([(zhb a0.Kind)]:List Int))else(bif decide (0<(i2:Int))then .ok ((s3++([IntKind.wrap .i64 ((zk a0.Kind)+20)]:List Int))++([(zhb a0.Kind)]:List Int))else .ok (s3++([(zhb a0.Kind)]:List Int))))
def yne (a0:Character) (i2:Nat) (s2:List Int):Except ((List Int)) (List Int):=
 (match yf (yzf a0 i2 s2) (((([1]:List Int).getD i2 default)).toNat-0) 0 s2 with|.error e=>.error e|.ok s3=>.ok s3)
def yjg (a0:Character) (i4:Nat) (s4:List Int) (i5:Nat) (s5:List Int):Except ((List Int)) (List Int):=
 (bif decide (0<(i5:Int))then .ok ((s5++([(zk a0.Kind)]:List Int))++([(zhb a0.Kind)]:List Int))else(bif decide (0<(i4:Int))then .ok ((s5++([IntKind.wrap .i64 ((zk a0.Kind)+20)]:List Int))++([(zhb a0.Kind)]:List Int))else .ok (s5++([(zhb a0.Kind)]:List Int))))
def yfg (a0:Character) (i4:Nat) (s4:List Int):Except ((List Int)) (List Int):=
 (match yf (yjg a0 i4 s4) (((a0.Group.getD i4 default)).toNat-0) 0 s4 with|.error e=>.error e|.ok s5=>.ok s5)
def za (a0:Character):(List Int):=
 (bif (a0.Kind == 8)then(match yf (yig a0) (((zo ((a0.Letter.getD 0 0).toNat:Int)).length)-0) 0 ([]:List Int)with|.error e=>e|.ok s1=>s1)else(bif ((a0.Group.length:Int) == 0)then(match yf (yne a0) (1-0) 0 ([]:List Int)with|.error e=>e|.ok s2=>(bif (a0.Letter == [76])then s2++([(zk a0.Kind),20]:List Int)else s2))else(match yf (yfg a0) (a0.Group.length-0) 0 ([]:List Int)with|.error e=>e|.ok s4=>(bif (a0.Letter == [76])then s4++([(zk a0.Kind),20]:List Int)else s4))))
namespace N101
theorem DD:DOk Tryz.prog (Go.Ab.DD [(106,dP D_zk),(127,dP D_zo),(128,dP D_zhb)]):=ya yin.e <| ya y1y.e <| ya y1u.e <| ye _
theorem dn:type_of% (And.intro @D_zk.eq_1 <| And.intro @D_zo.eq_1 <| @D_zhb.eq_1):=by and_intros<;>intros<;>rfl
theorem o2 {p:Prop} (h:p:=by(first|(and_intros<;>first|decide|omega|(simp;(first|done|fail))|(rw[IntKind.wrap_i64];have:=hg9 i4;omega)|(rw[IntKind.wrap_i64];have:=hg1 i2;omega)|(rw[IntKind.wrap_i64];omega)|(intro i hi;exact ygk _ _ i hi)|(intro i hi;exact y5k _ _ _ i hi)));first|done|fail):p:=h
theorem o3 {p:Prop} (h:p:=by(first|(refine⟨⟨Nat.le_refl _,fun i hi=>yjl _ _ _ i hi⟩,.inl fun i hi=>by rw[yrg _ _ _ i hi];simp[NoBorL,NoBor],by simp,fun i hi=>by rw[yrg _ _ _ i hi];exact y9 _⟩));first|done|fail):p:=h
theorem lx {p:Prop} (h:p:=by(exact lxx);first|done|fail):p:=h
set_option maxHeartbeats 1000000 in
set_option maxRecDepth 20000 in
theorem den (a0:Character) (hb0:bdCharacter a0) (hp0:a0.Group.length<=4) (hp1:∀ v∈a0.Group,v<=9) (hp2:a0.Kind=8->a0.Letter.length=1/\65<=(a0.Letter.getD 0 0).toNat/\(a0.Letter.getD 0 0).toNat<=90):Den Tryz.prog 101 [.ep (eCharacter a0)] (ownL 2 1 yq (za a0)):=by
 generalize hR:za a0=r;unfold za at hR;refine di Tryz.func101 Tryz.ntmps101 Tryz.results101 ?_;intro c hL hc hk;obtain⟨hL0,_⟩:=hL;have hw0:bwCharacter a0:=yj a0 hL0;clear hL0;simp only[pars,Nat.zero_add];have hg9:∀ i:Nat,a0.Group.getD i default<=9:=fun i=>ydk hp1 i
 have hs9:=yvh ((a0.Letter.getD 0 0).toNat:Int);have hg1:∀ i:Nat,([1]:List Int).getD i default<=9:=fun i=>ydk (by simp) i
 iterate 3 refine rS ?_
 refine AWP.cond rfl (fun hb => ?_) (fun hb => ?_)
 ·replace hR:=ct hR
  iterate 2 refine rS ?_
  refine AWP.block ?_;generalize hz1:yf (yig a0) (((zo ((a0.Letter.getD 0 0).toNat:Int)).length)-0) 0 ([]:List Int)=z1 at hR;refine AWP.range (yig a0) (fun i1 s1=>⟨[(3,.ref 0 1 0 s1.length),(4,.ref 1 1 0 ((zo ((a0.Letter.getD 0 0).toNat:Int)).length)),(5,.int .i64 (i1:Int))],[.arr 2 1 s1.length (fun j=>yq (s1.getD j default)),.arr 2 1 (zo ((a0.Letter.getD 0 0).toNat:Int)).length (fun j=>yq ((zo ((a0.Letter.getD 0 0).toNat:Int)).getD j default))]⟩) (fun i1 s1=>s1.length<=([]:List Int).length+2 * i1/\s1.length<=2 * i1) (((zo ((a0.Letter.getD 0 0).toNat:Int)).length)) 0 ([]:List Int) [0,1] hz1 ot wt sm ?_;clear hz1;intro i1 s1 hi1 hW1 hz1;refine rS ?_;refine AWP.cond rfl (fun hb => ?_) (fun hb => ?_)
  ·have hlt1:i1<((zo ((a0.Letter.getD 0 0).toNat:Int)).length):=ot
   rw[yg hlt1]at hz1;simp only[yig]at hz1;refine rS ?_;refine AWP.cond rfl (fun hb => ?_) (fun hb => ?_)
   ·simp only[hb,cond_true]at hz1
    iterate 3 refine rS ?_
    exact⟨_,[5,1],hlt1,wt,hz1,sm⟩
   ·simp only[hb,cond_false]at hz1
    iterate 2 refine rS ?_
    exact⟨_,[3,1],hlt1,wt,hz1,sm⟩
  ·obtain rfl:i1=((zo ((a0.Letter.getD 0 0).toNat:Int)).length):=ot
   rw[yh (Nat.le_refl _)]at hz1;subst hz1;dsimp only at hR;refine AWP.exit ?_;refine yc ?_;refine rS ?_;refine AWP.ret ?_;subst hR;exact es
 ·replace hR:=cf hR
  iterate 2 refine rS ?_
  refine AWP.cond rfl (fun hb => ?_) (fun hb => ?_)
  ·replace hR:=ct hR
   iterate 2 refine rS ?_
   refine AWP.block ?_;generalize hz2:yf (yne a0) (1-0) 0 ([]:List Int)=z2 at hR;refine AWP.range (yne a0) (fun i2 s2=>⟨[(0,.ep (eCharacter a0)),(3,.ref 0 1 0 s2.length),(6,.ref 1 1 0 1),(7,.int .i64 (i2:Int))],[.arr 2 1 s2.length (fun j=>yq (s2.getD j default)),.arr 2 1 ([1]:List Int).length (fun j=>yq (([1]:List Int).getD j default))]⟩) (fun i2 s2=>s2.length<=18 * i2) (1) 0 ([]:List Int) [0,1] hz2 ot wt sm ?_;clear hz2;intro i2 s2 hi2 hW2 hz2;refine rS ?_;refine AWP.cond rfl (fun hb => ?_) (fun hb => ?_)
   ·have hlt2:i2<1:=ot
    rw[yg hlt2]at hz2;simp only[yne]at hz2;refine rS ?_;refine AWP.block ?_;generalize hz3:yf (yzf a0 i2 s2) (((([1]:List Int).getD i2 default)).toNat-0) 0 s2=z3 at hz2;refine AWP.range (yzf a0 i2 s2) (fun i3 s3=>⟨[(0,.ep (eCharacter a0)),(3,.ref 0 1 0 s3.length),(6,.ref 1 1 0 1),(7,.int .i64 (i2:Int)),(8,.int .i64 (i3:Int))],[.arr 2 1 s3.length (fun j=>yq (s3.getD j default)),.arr 2 1 ([1]:List Int).length (fun j=>yq (([1]:List Int).getD j default))]⟩) (fun i3 s3=>s3.length<=s2.length+2 * i3/\s3.length<=18 * i2+2 * i3) (((([1]:List Int).getD i2 default)).toNat) 0 s2 [0,1] hz3 ot wt sm ?_;clear hz3;intro i3 s3 hi3 hW3 hz3;refine rS ?_;refine AWP.cond rfl (fun hb => ?_) (fun hb => ?_)
    ·have hlt3:i3<((([1]:List Int).getD i2 default)).toNat:=ot
     rw[yg hlt3]at hz3;simp only[yzf]at hz3;refine rS ?_;refine AWP.cond rfl (fun hb => ?_) (fun hb => ?_)
     ·simp only[hb,cond_true]at hz3
      iterate 3 refine rS ?_
      exact⟨_,[5,1],hlt3,wt,hz3,sm⟩
     ·simp only[hb,cond_false]at hz3
      refine rS ?_;refine AWP.cond rfl (fun hb => ?_) (fun hb => ?_)
      ·simp only[hb,cond_true]at hz3
       iterate 3 refine rS ?_
       exact⟨_,[5,1],hlt3,wt,hz3,sm⟩
      ·simp only[hb,cond_false]at hz3
       iterate 2 refine rS ?_
       exact⟨_,[3,1],hlt3,wt,hz3,sm⟩
    ·obtain rfl:i3=((([1]:List Int).getD i2 default)).toNat:=ot
     rw[yh (Nat.le_refl _)]at hz3;subst hz3;dsimp only at hz2;refine AWP.exit ?_;refine yc ?_;refine rS ?_;exact⟨_,[0,1],hlt2,by(have h9:=hg1 i2;omega),hz2,sm⟩
   ·obtain rfl:i2=1:=ot
    rw[yh (Nat.le_refl _)]at hz2;subst hz2;dsimp only at hR;refine AWP.exit ?_;refine yc ?_;refine rS ?_;refine AWP.cond rfl (fun hb => ?_) (fun hb => ?_)
    ·replace hR:=ct hR
     iterate 2 refine rS ?_
     refine AWP.ret ?_;subst hR;exact es
    ·replace hR:=cf hR
     refine rS ?_;refine AWP.ret ?_;subst hR;exact es
  ·replace hR:=cf hR
   refine rS ?_;refine AWP.block ?_;refine AWP.lensS 6 rfl (fun hLn4 => ?_);generalize hz4:yf (yfg a0) (a0.Group.length-0) 0 ([]:List Int)=z4 at hR;refine AWP.range (yfg a0) (fun i4 s4=>⟨[(0,.ep (eCharacter a0)),(3,.ref 0 1 0 s4.length),(6,encL 1 yq a0.Group),(7,.int .i64 (i4:Int))],[.arr 2 1 s4.length (fun j=>yq (s4.getD j default))]⟩) (fun i4 s4=>s4.length<=18 * i4) (a0.Group.length) 0 ([]:List Int) [0] hz4 ot wt sm ?_;clear hz4;intro i4 s4 hi4 hW4 hz4;refine rS ?_;refine AWP.cond rfl (fun hb => ?_) (fun hb => ?_)
   ·have hlt4:i4<a0.Group.length:=ot
    rw[yg hlt4]at hz4;simp only[yfg]at hz4;refine rS ?_;refine AWP.block ?_;generalize hz5:yf (yjg a0 i4 s4) (((a0.Group.getD i4 default)).toNat-0) 0 s4=z5 at hz4;refine AWP.range (yjg a0 i4 s4) (fun i5 s5=>⟨[(0,.ep (eCharacter a0)),(3,.ref 0 1 0 s5.length),(6,encL 1 yq a0.Group),(7,.int .i64 (i4:Int)),(8,.int .i64 (i5:Int))],[.arr 2 1 s5.length (fun j=>yq (s5.getD j default))]⟩) (fun i5 s5=>s5.length<=s4.length+2 * i5/\s5.length<=18 * i4+2 * i5) (((a0.Group.getD i4 default)).toNat) 0 s4 [0] hz5 ot wt sm ?_;clear hz5;intro i5 s5 hi5 hW5 hz5;refine rS ?_;refine AWP.cond rfl (fun hb => ?_) (fun hb => ?_)
    ·have hlt5:i5<((a0.Group.getD i4 default)).toNat:=ot
     rw[yg hlt5]at hz5;simp only[yjg]at hz5;refine rS ?_;refine AWP.cond rfl (fun hb => ?_) (fun hb => ?_)
     ·simp only[hb,cond_true]at hz5
      iterate 3 refine rS ?_
      exact⟨_,[4],hlt5,wt,hz5,sm⟩
     ·simp only[hb,cond_false]at hz5
      refine rS ?_;refine AWP.cond rfl (fun hb => ?_) (fun hb => ?_)
      ·simp only[hb,cond_true]at hz5
       iterate 3 refine rS ?_
       exact⟨_,[4],hlt5,wt,hz5,sm⟩
      ·simp only[hb,cond_false]at hz5
       iterate 2 refine rS ?_
       exact⟨_,[2],hlt5,wt,hz5,sm⟩
    ·obtain rfl:i5=((a0.Group.getD i4 default)).toNat:=ot
     rw[yh (Nat.le_refl _)]at hz5;subst hz5;dsimp only at hz4;refine AWP.exit ?_;refine yc ?_;refine rS ?_;exact⟨_,[0],hlt4,by(have h9:=hg9 i4;omega),hz4,sm⟩
   ·obtain rfl:i4=a0.Group.length:=ot
    rw[yh (Nat.le_refl _)]at hz4;subst hz4;dsimp only at hR;refine AWP.exit ?_;refine yc ?_;refine rS ?_;refine AWP.cond rfl (fun hb => ?_) (fun hb => ?_)
    ·replace hR:=ct hR
     iterate 2 refine rS ?_
     refine AWP.ret ?_;subst hR;exact es
    ·replace hR:=cf hR
     refine rS ?_;refine AWP.ret ?_;subst hR;exact es
end N101
def D_za : DF
 | [x0]=>some (ownL 2 1 yq (za (rdP yb x0)),false,[wP eCharacter yb x0,bdCharacter (rdP yb x0),(rdP yb x0).Group.length<=4,∀ v∈(rdP yb x0).Group,v<=9,(rdP yb x0).Kind=8->(rdP yb x0).Letter.length=1/\65<=((rdP yb x0).Letter.getD 0 0).toNat/\((rdP yb x0).Letter.getD 0 0).toNat<=90])
 | _=>none
theorem y2s:OkD Tryz.prog 101 D_za:=by unfold D_za;exact dk N101.den
def zxc (a0:Character):Int:=
 (bif (a0.Kind == 6)then 20 else(bif (a0.Kind == 7)then 10 else(bif (a0.Kind == 8)then 30 else(bif decide (1<(a0.Group.length:Int))then IntKind.wrap .i64 ((IntKind.wrap .i64 ((zk a0.Kind)+5))+20)else IntKind.wrap .i64 ((zk a0.Kind)+5)))))
namespace N102
theorem DD:DOk Tryz.prog (Go.Ab.DD [(106,dP D_zk)]):=ya yin.e <| ye _
theorem dn:type_of% (@D_zk.eq_1):=by and_intros<;>intros<;>rfl
theorem den (a0:Character)  : Den Tryz.prog 102 [.ep (eCharacter a0)] (.int .i64 (zxc a0)):=by
 generalize hR:zxc a0=r;unfold zxc at hR;refine di Tryz.func102 Tryz.ntmps102 Tryz.results102 ?_;intro c hL hc hk;obtain⟨hL0,_⟩:=hL;have hw0:bwCharacter a0:=yj a0 hL0;clear hL0;simp only[pars,Nat.zero_add];iterate 3 refine rS ?_
 refine AWP.cond rfl (fun hb => ?_) (fun hb => ?_)
 ·replace hR:=ct hR
  refine rS ?_;refine AWP.ret ?_;subst hR;exact es
 ·replace hR:=cf hR
  refine rS ?_;refine AWP.cond rfl (fun hb => ?_) (fun hb => ?_)
  ·replace hR:=ct hR
   refine rS ?_;refine AWP.ret ?_;subst hR;exact es
  ·replace hR:=cf hR
   refine rS ?_;refine AWP.cond rfl (fun hb => ?_) (fun hb => ?_)
   ·replace hR:=ct hR
    refine rS ?_;refine AWP.ret ?_;subst hR;exact es
   ·replace hR:=cf hR
    iterate 2 refine rS ?_
    refine AWP.cond rfl (fun hb => ?_) (fun hb => ?_)
    ·replace hR:=ct hR
     iterate 2 refine rS ?_
     refine AWP.ret ?_;subst hR;exact es
    ·replace hR:=cf hR
     refine rS ?_;refine AWP.ret ?_;subst hR;exact es
end N102
def D_zxc : DF
 | [x0]=>some (.int .i64 (zxc (rdP yb x0)),false,[wP eCharacter yb x0])
 | _=>none
theorem y0u:OkD Tryz.prog 102 D_zxc:=by unfold D_zxc;exact dk N102.den
end Go.Ab
